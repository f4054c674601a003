/- Part 6 of 6 of a proof. The law DeriveTerms holds: for all systems, derivations and strategies that are not larger than the statement's bound, the function returns true. -/
import Derived.Test.YtpgjcbeoipldgaaGreatRa5
import Derived.Laws.MakeOwn
set_option linter.unusedVariables false
set_option linter.unusedSimpArgs false
set_option maxRecDepth 10000
namespace Ab
open Go Go.Proofs
def nmB (N : Nat) : Term → Bool
  | .mk n _ xs => decide (n.length ≤ N) && (xs.map (nmB N)).all id
theorem nmB_mk (N : Nat) (n : List UInt8) (u : Bool) (xs : List Term) : nmB N (.mk n u xs) = (decide (n.length ≤ N) && xs.all (nmB N)) := by rw [nmB, List.all_map]; rfl
theorem nmB_iff (N : Nat) (n : List UInt8) (u : Bool) (xs : List Term) : nmB N (.mk n u xs) = true ↔ n.length ≤ N ∧ ∀ x, x ∈ xs → nmB N x = true := by rw [nmB_mk, Bool.and_eq_true, decide_eq_true_eq, List.all_eq_true]
theorem nm_bulk (N : Nat) (t : Term) : nmB N t = true → t.bulk ≤ t.size * (N + 1) := by
  induction t using Term.ind with | _ n u xs ih
  intro h
  obtain ⟨h1, h2⟩ := (nmB_iff N n u xs).1 h
  rw [Term.bulk_mk, Term.size_mk]
  have key : ∀ ys : List Term, (∀ y, y ∈ ys → y ∈ xs) → (ys.map Term.bulk).sum ≤ (ys.map Term.size).sum * (N + 1) := by
    intro ys
    induction ys with
    | nil => intro _; simp
    | cons y ys ih2 =>
      intro hy
      have a := ih y (hy y (by simp)) (h2 y (hy y (by simp)))
      have b := ih2 (fun z hz => hy z (by simp [hz]))
      simp only [List.map_cons, List.sum_cons, Nat.add_mul]
      omega
  have := key xs (fun y h => h)
  rw [Nat.add_mul]
  omega
theorem nm_of (N : Nat) (t : Term) : t.bulk ≤ N → nmB N t = true := by
  induction t using Term.ind with | _ n u xs ih
  intro h
  have h1 := Term.name_le (n := n) (v := u) (xs := xs)
  exact (nmB_iff N n u xs).2 ⟨by omega, fun x hx => ih x hx (by have := Term.arg_le (n := n) (v := u) hx; omega)⟩
theorem nm_sub {N : Nat} {s t : Term} (h : SubT s t) : nmB N s = true → nmB N t = true := by
  induction h with
  | refl => exact id
  | arg hx _ ih => intro hs; exact ih (((nmB_iff _ _ _ _).1 hs).2 _ hx)
theorem nm_image {N : Nat} {σ : List (List UInt8 × Term)} (h : ∀ b, b ∈ σ → nmB N b.2 = true) (v : List UInt8) (hv : v.length ≤ N) : nmB N (imageP σ v) = true := by
  unfold imageP
  cases hf : σ.find? fun b => decide (b.1 = v) with
  | none => exact (nmB_iff _ _ _ _).2 ⟨hv, fun x hx => by simp at hx⟩
  | some b => exact h b (List.mem_of_find?_eq_some hf)
theorem nm_apply {N : Nat} {σ : List (List UInt8 × Term)} (h : ∀ b, b ∈ σ → nmB N b.2 = true) (t : Term) : nmB N t = true → nmB N (applyP σ t) = true := by
  induction t using Term.ind with | _ n u xs ih
  intro ht
  obtain ⟨h1, h2⟩ := (nmB_iff _ _ _ _).1 ht
  rw [applyP_mk]
  split
  · exact nm_image h n h1
  · refine (nmB_iff _ _ _ _).2 ⟨h1, fun x hx => ?_⟩
    obtain ⟨y, hy, rfl⟩ := List.mem_map.1 hx
    exact ih y hy (h2 y hy)
theorem nm_put {N : Nat} {x : Term} (hx : nmB N x = true) : ∀ (p : List Int) (t y : Term), atP t p = some y → nmB N t = true → nmB N (putP t p x) = true
  | [], t, y, _, _ => by cases t; exact hx
  | i :: p, .mk n u xs, y, h, ht => by
    obtain ⟨hk, h2⟩ := step_some h
    obtain ⟨h1, h3⟩ := (nmB_iff _ _ _ _).1 ht
    rw [step_put n u xs i p x hk.2]
    refine (nmB_iff _ _ _ _).2 ⟨h1, fun z hz => ?_⟩
    rcases List.mem_or_eq_of_mem_set hz with hz | rfl
    · exact h3 z hz
    · exact nm_put hx p _ y h2 (h3 _ (List.getElem_mem hk.2))
def TmB (t : Term) : Prop := t.size ≤ 4000 ∧ nmB 1048576 t = true
theorem TmB.bulk {t : Term} (h : TmB t) : t.bulk ≤ 4194308000 := by
  have h1 := nm_bulk 1048576 t h.2
  have h2 : t.size * (1048576 + 1) ≤ 4000 * (1048576 + 1) := Nat.mul_le_mul h.1 (Nat.le_refl _)
  omega
def RuB (rs : List (Term × Term)) : Prop := ∀ r, r ∈ rs → r.1.bulk ≤ 1048576 ∧ r.2.bulk ≤ 1048576
theorem rhs_nm {rs : List (Term × Term)} (hr : RuB rs) {t : Term} (ht : TmB t) {s : Int × List Int} {x : Term} (hf : FindOk rs t s x (findE rs t s).1) : nmB 1048576 (rhsP rs t s) = true := by
  have hxn := nm_sub (at_sub _ _ _ hf.at') ht.2
  exact nm_apply (fun b hb => nm_sub (hf.subOk.1.sub b hb) hxn) _ (nm_of _ _ (hr _ hf.mem).2)
theorem do_TmB {rs : List (Term × Term)} (hr : RuB rs) {t : Term} (ht : TmB t) {s : Int × List Int} (h : (doE rs t s).2 = 0) : TmB (doE rs t s).1 := by
  rw [do_alt] at h ⊢
  split
  · rename_i h1; rw [if_pos h1] at h; exact absurd h h1
  · rename_i h1
    rw [if_neg h1] at h
    obtain ⟨x, hf⟩ := find_ok (by simpa using h1)
    split
    · rename_i h2
      exact ⟨fits_size h2, nm_put (rhs_nm hr ht hf) _ _ _ hf.at' ht.2⟩
    · rename_i h2; rw [if_neg h2] at h; cases h
set_option maxHeartbeats 2000000 in
theorem stepRX_ac (rs : List (Term × Term)) (hr : RuB rs) (t : Term) (ht : TmB t) (s : Int × List Int) (hs : s.2.length < 1099511627776) (H : List AObj) :
    ACall Tryz.prog 51 [.sl .none (encL encRu rs), encT t, encSt s] H (fun r H' => r = encRE (doE rs t s) ∧ H' = H) := by
  have htb := ht.bulk
  rw [do_alt]
  refine ACall_V (H.length) 59 [.cell 6 25, .tmp 7] Tryz.func51 rfl rfl rfl ?_
  simp only [push_cast, Nat.reduceAdd, Nat.reduceSub, Nat.reduceMul, Nat.reduceLT, Nat.reduceLeDiff, Nat.reduceEqDiff, Int.reduceToNat, ↓reduceIte]
  refine (substRX_ac rs (fun r h => by have := hr r h; omega) t (by omega) s hs _).to ?_
  simp only [push_cast, Nat.reduceAdd, Nat.reduceSub, Nat.reduceMul, Nat.reduceLT, Nat.reduceLeDiff, Nat.reduceEqDiff, Int.reduceToNat, ↓reduceIte, encFE]
  refine cI (fun h => ?_) (fun h => ?_)
  · rw [if_neg (by simpa using h)]
    obtain ⟨x, hf⟩ := find_ok h
    obtain ⟨hso, hsl⟩ := hf.subOk
    have hxs := at_sub _ _ _ hf.at'
    have hrb := hr _ hf.mem
    have hlz := (ruleN rs s.1).1.size_le
    have hrz := (ruleN rs s.1).2.size_le
    have hrn := ruleN_get hf.hi
    have hxz := hxs.sizes.1
    have hxb := hxs.bulk
    have ht1 := ht.1
    have hap : (rhsP rs t s).size ≤ (ruleN rs s.1).2.size * 4000 := apply_size _ 4000 (by decide) (fun b hb => by have := (hso.bulk b hb).2; omega) _
    have hap2 : (rhsP rs t s).size ≤ 4194304000 := by omega
    have hapd := (rhsP rs t s).depth_le
    have hnm := rhs_nm hr ht hf
    have hap3 : (applyP (findE rs t s).1 (ruleN rs s.1).2).size ≤ 4194304000 := hap2
    have hsbk : ∀ b, b ∈ (findE rs t s).1 → b.2.bulk ≤ 1099511627775 := fun b hb => by have := (hso.bulk b hb).1; omega
    refine ⟨hf.lo, hf.hi, ?_⟩
    rw [← hrn]
    refine (grownR_ac (findE rs t s).1 (by omega) hsbk (ruleN rs s.1).2 (by omega) (by omega) _).to ?_
    simp only [push_cast, Nat.reduceAdd, Nat.reduceSub, Nat.reduceMul, Nat.reduceLT, Nat.reduceLeDiff, Nat.reduceEqDiff, Int.reduceToNat, ↓reduceIte]
    refine (replacedX_ac (rhsP rs t s) (by omega) (by omega) s.2 t x (by omega) hs hf.at' _).to ?_
    simp only [push_cast, Nat.reduceAdd, Nat.reduceSub, Nat.reduceMul, Nat.reduceLT, Nat.reduceLeDiff, Nat.reduceEqDiff, Int.reduceToNat, ↓reduceIte]
    have hsub := at_sub _ _ _ (at_put _ _ (rhsP rs t s) _ hf.at')
    obtain ⟨u, hu⟩ : ∃ u, u = putP t s.2 (rhsP rs t s) := ⟨_, rfl⟩
    rw [← hu] at hsub ⊢
    have fn : ¬ (u.size ≤ 4000 ∧ u.depth ≤ 200) → ¬ fitsP u = true := fun h1 h2 => by
      unfold fitsP at h2
      rw [Bool.and_eq_true, decide_eq_true_eq, decide_eq_true_eq] at h2
      exact h1 h2
    refine cI (fun h1 => ?_) (fun h1 => ?_)
    · rw [if_neg (fn (by omega))]
      simp only [push_cast, Nat.reduceAdd, Nat.reduceSub, Nat.reduceMul, Nat.reduceLT, Nat.reduceLeDiff, Nat.reduceEqDiff, Int.reduceToNat, ↓reduceIte]
    · refine cI (fun h2 => ?_) (fun h2 => ?_)
      · rw [if_neg (fn (by omega))]
        simp only [push_cast, Nat.reduceAdd, Nat.reduceSub, Nat.reduceMul, Nat.reduceLT, Nat.reduceLeDiff, Nat.reduceEqDiff, Int.reduceToNat, ↓reduceIte]
      · have hfu : fitsP u = true := by unfold fitsP; rw [Bool.and_eq_true, decide_eq_true_eq, decide_eq_true_eq]; omega
        rw [if_pos hfu]
        have hus := hsub.sizes.1
        have hub := (show TmB (rhsP rs t s) from ⟨by omega, hnm⟩).bulk
        apply AW_drawE [some 50, some 51, some 52, some 53, some 54, some 55, some 56, some 57, some 58, some 59, some 60, some 61, none, some 7] [([false], _), ([true], _)] [none, none, none, none, none, none, none, none, none, none, none, none, some 0, none] 1 [(0, [false], [4]), (1, [false], [5]), (2, [false], [51]), (3, [false], [8]), (4, [false], [0]), (5, [false], [5]), (6, [false], [55]), (7, [false], [54, 1]), (8, [false], [57]), (9, [false], [58]), (10, [false], [53, 5]), (11, [false], [50, 1, 7]), (12, [false], [6, 54]), (13, [true], [])] [_, _, _, _, _, _, _, _, _, _, _, _, _, _]
        case' hm => exact dr
        case' hn => rfl
        case' hok => rfl
        case' hlen => rfl
        case' hd => rfl
        case' h0 => rfl
        case' hstep =>
         simp only [DAllG, push_cast, Option.isSome_some, Option.isSome_none]
         repeat' apply And.intro
         all_goals (apply DOne_V; simp only [push_cast, Nat.reduceAdd, Nat.reduceSub, Nat.reduceMul, Nat.reduceLT, Nat.reduceLeDiff, Nat.reduceEqDiff, Int.reduceToNat, ↓reduceIte] <;> first | exact rfl | omega | exact ⟨rfl, rfl⟩ | exact trivial | exact ⟨by omega, rfl⟩ | exact ⟨by omega, by omega, rfl⟩ | exact ⟨by omega, rfl, rfl⟩ | exact ⟨by omega, by omega, rfl, rfl⟩ | exact ⟨hf.lo, hf.hi, rfl⟩ | (rw [← hrn]; refine (applyR_ac (findE rs t s).1 (by omega) (ruleN rs s.1).2 (by omega) _).to ?_; exact ⟨rfl, rfl⟩) | (refine (putR_ac (rhsP rs t s) (by omega) s.2 t x (by omega) hs hf.at' _).to ?_; exact ⟨rfl, rfl⟩))
        case' hQ => skip
        rw [← hu]
        simp only [push_cast, Nat.reduceAdd, Nat.reduceSub, Nat.reduceMul, Nat.reduceLT, Nat.reduceLeDiff, Nat.reduceEqDiff, Int.reduceToNat, ↓reduceIte]
  · rw [if_pos h]
    simp only [push_cast, Nat.reduceAdd, Nat.reduceSub, Nat.reduceMul, Nat.reduceLT, Nat.reduceLeDiff, Nat.reduceEqDiff, Int.reduceToNat, ↓reduceIte]
def runF (rs : List (Term × Term)) : List Term → Term → List (Int × List Int) → List Term × Int
  | acc, _, [] => (acc, 0)
  | acc, t, s :: r => if (doE rs t s).2 ≠ 0 then ([], (doE rs t s).2) else runF rs (acc ++ [(doE rs t s).1]) (doE rs t s).1 r
def termsE (rs : List (Term × Term)) (c : Term × List (Int × List Int)) : List Term × Int :=
  if 4096 < c.2.length then ([], 3) else if checkP c.1 ≠ 0 then ([], checkP c.1) else runF rs [c.1] c.1 c.2
def encTE (q : List Term × Int) : AV := .tup [.sl .none (encTs q.1), .int .i64 q.2]
theorem check_TmB {t : Term} (h : checkP t = 0) : TmB t := ⟨(check_small h).1, nm_of _ _ (by have := (check_small h).2; omega)⟩
theorem gSl_tk (k : Nat) (xs : List AV) : ∃ tk, gSl k xs = .sl tk xs := by cases xs <;> exact ⟨_, rfl⟩
@[reducible] def encCh (c : Term × List (Int × List Int)) : AV := .agg [.str c.1.name, .bool c.1.var, .sl .none (encTs c.1.args), .sl .none (encL encSt c.2)]
set_option maxHeartbeats 2000000 in
theorem termsR_ac (rs : List (Term × Term)) (hr : RuB rs) (c : Term × List (Int × List Int)) (hc1 : c.1.bulk ≤ 1099511627775) (hc2 : c.2.length < 1099511627776) (hc3 : ∀ x, x ∈ c.2 → x.2.length < 1099511627776) (H : List AObj) :
    ACall Tryz.prog 15 [.sl .none (encL encRu rs), encCh c] H (fun r H' => r = encTE (termsE rs c) ∧ H' = H) := by
  refine ACall_VA (H.length) 51 [.tmp 4, .tmp 5] Tryz.func15 rfl rfl rfl ?_
  refine AW_reserve 1 ?_
  refine AW_seq (AW_of_W ?_)
  simp only [push_cast, Nat.reduceAdd, Nat.reduceSub, Nat.reduceMul, Nat.reduceLT, Nat.reduceLeDiff, Nat.reduceEqDiff, Int.reduceToNat, ↓reduceIte]
  refine AW_seq (AW_of_W ?_)
  simp only [push_cast, Nat.reduceAdd, Nat.reduceSub, Nat.reduceMul, Nat.reduceLT, Nat.reduceLeDiff, Nat.reduceEqDiff, Int.reduceToNat, ↓reduceIte]
  refine cI (fun h => ?_) (fun h => ?_)
  · have e : termsE rs c = ([], 3) := if_pos (by omega)
    rw [e]
    simp only [push_cast, Nat.reduceAdd, Nat.reduceSub, Nat.reduceMul, Nat.reduceLT, Nat.reduceLeDiff, Nat.reduceEqDiff, Int.reduceToNat, ↓reduceIte, encTE, encTs_nil]
  · have e0 : termsE rs c = if checkP c.1 ≠ 0 then ([], checkP c.1) else runF rs [c.1] c.1 c.2 := if_neg (by omega)
    refine AW_seq (AW_of_W ?_)
    simp only [push_cast, Nat.reduceAdd, Nat.reduceSub, Nat.reduceMul, Nat.reduceLT, Nat.reduceLeDiff, Nat.reduceEqDiff, Int.reduceToNat, ↓reduceIte]
    refine (checkR_ac c.1 hc1 _).to ?_
    simp only [push_cast, Nat.reduceAdd, Nat.reduceSub, Nat.reduceMul, Nat.reduceLT, Nat.reduceLeDiff, Nat.reduceEqDiff, Int.reduceToNat, ↓reduceIte]
    refine cI (fun h2 => ?_) (fun h2 => ?_)
    · refine AW_seq ?_
      refine AW_regionAt _ [_, _] _ _ rfl rfl ?_
      simp only [push_cast, Nat.reduceAdd, Nat.reduceSub, Nat.reduceMul, Nat.reduceLT, Nat.reduceLeDiff, Nat.reduceEqDiff, Int.reduceToNat, ↓reduceIte]
      refine bsliceG_sound H.length ?_
      simp only [push_cast, Nat.reduceAdd, Nat.reduceSub, Nat.reduceMul, Nat.reduceLT, Nat.reduceLeDiff, Nat.reduceEqDiff, Int.reduceToNat, ↓reduceIte, bsliceG]
      refine AW_of_W ?_
      simp only [push_cast, Nat.reduceAdd, Nat.reduceSub, Nat.reduceMul, Nat.reduceLT, Nat.reduceLeDiff, Nat.reduceEqDiff, Int.reduceToNat, ↓reduceIte]
      have e1 : termsE rs c = runF rs [c.1] c.1 c.2 := e0.trans (if_neg (by simpa using h2))
      obtain ⟨l, hl⟩ : ∃ l, l = c.2 := ⟨_, rfl⟩
      have hll : l.length ≤ 4096 := by rw [hl]; omega
      refine AW_loopW (maskG 53 [0, 6, 18, 0, 0]) (fun (q : Nat × List Term × Term) => [(28, .int .i64 q.1), (7, gSl H.length (encTs (q.2.1 ++ [q.2.2])))]) (fun q => H ++ [gTok 25 3 (encTs (q.2.1 ++ [q.2.2])), .cells [.str c.1.name, .bool c.1.var, .sl .none (encTs c.1.args), .sl .none (encL encSt c.2)]]) (fun q => q.1 ≤ c.2.length ∧ q.2.1.length = q.1 ∧ TmB q.2.2 ∧ termsE rs c = runF rs (q.2.1 ++ [q.2.2]) q.2.2 (c.2.drop q.1)) (fun q => c.2.length - q.1) (0, [], c.1) ⟨Nat.zero_le _, rfl, check_TmB (by simpa using h2), by rw [e1]; rfl⟩ (by simp only [push_cast, Nat.reduceAdd, Nat.reduceSub, Nat.reduceMul, Nat.reduceLT, Nat.reduceLeDiff, Nat.reduceEqDiff, Int.reduceToNat, ↓reduceIte, List.nil_append, encTs_one, gSl_cons, gTok_cons]) (fun q hq => ?_)
      obtain ⟨i, pre, u⟩ := q
      obtain ⟨q1, q2, q3, q4⟩ := hq
      simp only at q1 q2 q3 q4
      obtain ⟨acc, hacc⟩ : ∃ acc, acc = pre ++ [u] := ⟨_, rfl⟩
      have hal : acc.length = pre.length + 1 := by rw [hacc]; simp
      have hget : ∀ h, acc[pre.length]'h = u := by intro h; simp only [hacc]; simp
      have hm : (acc.length : Int) - 1 = ((pre.length : Nat) : Int) := by omega
      rw [← hacc] at q4 ⊢
      simp only [push_cast, Nat.reduceAdd, Nat.reduceSub, Nat.reduceMul, Nat.reduceLT, Nat.reduceLeDiff, Nat.reduceEqDiff, Int.reduceToNat, ↓reduceIte]
      refine cI (fun h => ?_) (fun h => ?_)
      · have hil : i < c.2.length := by omega
        refine ⟨hil, ?_⟩
        obtain ⟨s, hs⟩ : ∃ s, s = c.2[i]'hil := ⟨_, rfl⟩
        have hsb : s.2.length < 1099511627776 := by rw [hs]; exact hc3 _ (List.getElem_mem hil)
        rw [List.drop_eq_getElem_cons hil, ← hs] at q4
        rw [← hs]
        have hst := fun X => stepRX_ac rs hr u q3 s hsb X
        obtain ⟨tk, htk⟩ := gSl_tk H.length (encTs acc)
        rw [htk]
        apply AW_drawE [some 33, some 34, some 35, some 36, some 37, some 38, some 39, some 40, some 41, some 32, some 42, some 43, some 10, none, some 11] [([false, false], _), ([true, false], _), ([true, true], _)] [none, none, none, none, none, none, none, none, none, none, none, none, some 0, some 1, none] 2 [(0, [false, false], [0]), (1, [false, false], [7]), (2, [false, false], [7]), (3, [false, false], [35]), (4, [false, false], [36]), (5, [false, false], [34, 2]), (6, [false, false], [38]), (7, [false, false], [9]), (8, [false, false], [33, 5, 0]), (9, [false, false], [41]), (10, [false, false], [32]), (11, [false, false], [32]), (12, [false, false], []), (13, [true, false], [10, 31]), (14, [true, true], [43]), (0, [true, false], [0]), (1, [true, false], [7]), (2, [true, false], [7]), (3, [true, false], [35]), (4, [true, false], [36]), (5, [true, false], [34, 2]), (6, [true, false], [38]), (7, [true, false], [9]), (8, [true, false], [33, 5, 0]), (9, [true, false], [41]), (10, [true, false], [32]), (11, [true, false], [32]), (11, [true, true], [32])] [_, _, _, _, _, _, _, _, _, _, _, _, _, _, _]
        case' hm => exact dr
        case' hn => rfl
        case' hok => rfl
        case' hlen => rfl
        case' hd => rfl
        case' h0 => rfl
        case' hstep =>
         simp only [DAllG, push_cast, Option.isSome_some, Option.isSome_none]
         repeat' apply And.intro
         all_goals (apply DOne_V; simp only [push_cast, Nat.reduceAdd, Nat.reduceSub, Nat.reduceMul, Nat.reduceLT, Nat.reduceLeDiff, Nat.reduceEqDiff, Int.reduceToNat, ↓reduceIte, hm, hget] <;> first | exact rfl | omega | exact ⟨rfl, rfl⟩ | exact trivial | exact ⟨by omega, rfl⟩ | exact ⟨by omega, by omega, rfl⟩ | exact ⟨by omega, rfl, rfl⟩ | exact ⟨by omega, by omega, rfl, rfl⟩ | exact ⟨by omega, by omega, trivial⟩ | exact ⟨by omega, trivial⟩ | (refine (hst _).to ?_; exact ⟨rfl, rfl⟩))
        case' hQ => skip
        simp only [push_cast, Nat.reduceAdd, Nat.reduceSub, Nat.reduceMul, Nat.reduceLT, Nat.reduceLeDiff, Nat.reduceEqDiff, Int.reduceToNat, ↓reduceIte]
        have hd := do_TmB hr q3 (s := s)
        have hapl : acc.length < 1099511627776 := by omega
        refine cI (fun h3 => ?_) (fun h3 => ?_)
        · refine app1_T _ H.length acc (doE rs u s).1 _ (by rw [htk]; rfl) rfl (by exact aget0 _ _ _) sl23 sz25 by25 zr25 rfl (by decide) (by omega) ?_
          simp only [push_cast, Nat.reduceAdd, Nat.reduceSub, Nat.reduceMul, Nat.reduceLT, Nat.reduceLeDiff, Nat.reduceEqDiff, Int.reduceToNat, ↓reduceIte]
          repeat' first | refine ⟨by omega, ?_⟩ | refine cI (fun _ => ?_) (fun _ => ?_)
          refine loopW_n (i + 1, pre ++ [u], (doE rs u s).1) ⟨by simp only; omega, by simp; omega, hd h3, ?_⟩ (by simp only; omega) ?_
          · rw [q4, runF, if_neg (by simpa using h3), hacc]
          · rw [← hacc]
            simp only [push_cast, Nat.reduceAdd, Nat.reduceSub, Nat.reduceMul, Nat.reduceLT, Nat.reduceLeDiff, Nat.reduceEqDiff, Int.reduceToNat, ↓reduceIte]
        · rw [q4, runF, if_pos h3]
          simp only [push_cast, Nat.reduceAdd, Nat.reduceSub, Nat.reduceMul, Nat.reduceLT, Nat.reduceLeDiff, Nat.reduceEqDiff, Int.reduceToNat, ↓reduceIte, encTE, encTs_nil]
      · rw [List.drop_of_length_le (show c.2.length ≤ i by omega)] at q4
        rw [q4]
        simp only [push_cast, Nat.reduceAdd, Nat.reduceSub, Nat.reduceMul, Nat.reduceLT, Nat.reduceLeDiff, Nat.reduceEqDiff, Int.reduceToNat, ↓reduceIte, encTE, runF]
    · have e : termsE rs c = ([], checkP c.1) := e0.trans (if_pos h2)
      rw [e]
      simp only [push_cast, Nat.reduceAdd, Nat.reduceSub, Nat.reduceMul, Nat.reduceLT, Nat.reduceLeDiff, Nat.reduceEqDiff, Int.reduceToNat, ↓reduceIte, encTE, encTs_nil]
end Ab
set_option maxRecDepth 10000
namespace Ab
open Go Go.Proofs Go.Proofs.YtpgjcbeoipldgaaGreat
section
variable {H : Type}
theorem kdStepsC : kindOf Tryz.prog 26 = .slice 86 := by kernel_rfl
theorem agStepC : aggK Tryz.prog 86 = true := by unfold aggK; rw [kdStep]
theorem stepsC_form (n : Nat) (d : DataW H) (avs : List AV) (h : toAV Tryz.prog n 26 d = some avs) : ∃ l : List (Int × List Int), avs = [.sl .none (encL encSt l)] ∧ l.length ≤ Rows.uptoBulk d ∧ ∀ s, s ∈ l → s.2.length ≤ Rows.uptoBulk d := by
  obtain ⟨xs, ds, e3, hw, _, hd⟩ := row_form (fun s : Int × List Int => encSt s) (fun s => s.2.length + 1) Rows.uptoBulk kdStepsC (n := n) (fun k d avs _ he => by
    obtain ⟨t, x1, x2⟩ := step_form k d avs he
    exact ⟨t, by rw [agStepC]; exact x1, x2⟩) h
  have hb := bulk_row hd
  have := len_sum (fun s : Int × List Int => s.2.length) xs (k := Rows.uptoBulk d) (by omega)
  exact ⟨xs, e3, this.1, this.2⟩
theorem kdChain : kindOf Tryz.prog 28 = .struct [25, 26] := by kernel_rfl
theorem chain_form (n : Nat) (d : DataW H) (avs : List AV) (h : toAV Tryz.prog n 28 d = some avs) : ∃ c : Term × List (Int × List Int), AV.agg avs = encCh c ∧ c.1.bulk ≤ Rows.uptoBulk d ∧ c.2.length ≤ Rows.uptoBulk d ∧ ∀ s, s ∈ c.2 → s.2.length ≤ Rows.uptoBulk d := by
  obtain ⟨m, parts, avss, rfl, rfl, hl, hm, rfl⟩ := toAV_struct kdChain h
  match parts, hl, hm with
  | [d1, d2], _, hm =>
    obtain ⟨h1, h2⟩ := mapM_get hm
    match avss, h1, h2 with
    | [a1, a2], _, h2 =>
      obtain ⟨a, e1, b1⟩ := term_form m d1 a1 (h2 0 (by simp) (by simp))
      obtain ⟨l, rfl, b2, c2⟩ := stepsC_form m d2 a2 (h2 1 (by simp) (by simp))
      injection e1 with e1
      subst e1
      refine ⟨(a, l), by simp, ?_⟩
      simp only [Rows.uptoBulk, Rows.uptoBulkAll]
      exact ⟨by omega, by omega, fun s hs => by have := c2 s hs; omega⟩
end
end Ab
set_option maxRecDepth 10000
namespace Ab
open Go Go.Proofs
section
variable {P : Program} {ro : Option Nat} {H0 : List AObj} {Q : Exit → ASt → Prop} {st : ASt} {K : AV → List AObj → Prop} {dst : Option Tmp} {ty : TypeId} {pos : String} {after : Array Edge} {guard : Option (Nat × Bool)}
inductive ToA (m : Nat) (h : List AObj) : AV → AV → Prop
  | fgt {r v : AV} (hf : fgtW r v) : ToA m h r v
  | rowA (k e sz : Nat) {xs cs cs' : List AV} {b b' : AV} (hk : h[k]? = some (grO e sz xs)) (hl : (flat xs).length = xs.length * sz) (hm : m ≤ k) (hsc : ScopedL m (flat xs)) (hc : fgtL cs cs') (hb : fgtW b b') : ToA m h (.tup [.agg (grS k xs :: cs), b]) (.tup [.agg (.sl .none xs :: cs'), b'])
def finHH (H : List AObj) (m : Nat) (v : AV) (H1 h : List AObj) (r : AV) : Prop := OutOk H h m ∧ ToA m h r v ∧ Scoped m v ∧ h.take m = H1
def finVH (P : Program) (H : List AObj) (m : Nat) (v : AV) (H1 : List AObj) (rs : List ResultVar) : Exit → ASt → Prop
  | .normal, st => finR P rs st (finHH H m v H1 st.heap)
  | .ret, st => finR P rs st (finHH H m v H1 st.heap)
  | _, _ => False
theorem ACall_VHA {f : Nat} {fn : Func} {c : Code} {args : List AV} {H H1 : List AObj} {v : AV} (m n : Nat) (rs : List ResultVar) (hf : P.funcs[f]? = some fn) (hb : fn.body = some c) (hn : fn.ntmps - args.length = n) (hr : fn.results = rs.toArray)
    (h : AW P none H c (finVH P H m v H1 rs) ⟨args ++ List.replicate n (.lit undef), H⟩) : ACall P f args H (fun r H' => r = v ∧ H' = H1) := by
  subst hn
  intro C vs hg hH hsz hv
  refine ACall_of_AW (P := P) hf hb ?_ C vs hg hH hsz hv (R := fun r H' => r = v ∧ H' = H1)
  refine AW_mono h ?_
  intro e st' hh
  have key : finR P rs st' (finHH H m v H1 st'.heap) → ∃ r, ResOk P fn st' r ∧ finHH H m v H1 st'.heap r := by
    intro hh
    cases rs with
    | nil => exact ⟨.tup [], by unfold ResOk; rw [hr], hh⟩
    | cons x rs =>
      cases rs with
      | nil =>
        refine ⟨_, ?_, hh.2⟩
        have := resPre_spec hh.1
        unfold ResOk; rw [hr]
        cases x with
        | tmp t => rfl
        | cell a t => exact this
      | cons y l =>
        refine ⟨_, ?_, hh.2⟩
        unfold ResOk; rw [hr]
        have h2 := resPres_spec hh.1
        cases x <;> exact ⟨_, rfl, h2⟩
  have fin : (∃ r, ResOk P fn st' r ∧ finHH H m v H1 st'.heap r) → ∀ C1 a, Good C1 → C1.H = st'.heap → SRel C1 st' a → ∃ u r C', (results fn a.tmps).run P C1.w = .ok u C1.w ∧ C'.w = C1.w ∧ Good C' ∧ (∀ C0, Ext C0 C1 → C0.H = H → Good C0 → Ext C0 C') ∧ VRel C' r u ∧ (r = v ∧ C'.H = H1) := by
    rintro ⟨r, hr, ho, hto, hsc, ht⟩ C1 a hg1 hH1 hs1
    obtain ⟨u, hrun, hrel⟩ := results_run hr hg1 hH1 hs1
    have ho' : OutOk C.H C1.H m := by rw [hH, hH1]; exact ho
    have hgt : Good (C1.take m) := Good.take hg hg1 ho'
    have hht : (C1.take m).H = H1 := by show C1.H.take m = H1; rw [hH1]; exact ht
    cases hto with
    | fgt hf => exact ⟨u, v, C1.take m, hrun, rfl, hgt, fun C0 hx h0 _ => hx.take (by rw [h0]; exact ho.2.1), (fgtW_spec _ _ hf _ _ hrel).take hsc, rfl, hht⟩
    | @rowA k e sz xs cs cs' b b' hk hl hm hs2 hcc hbb =>
      cases hrel with
      | tup _ us hsz hrel =>
        have h0 := hrel 0 (by simp)
        have h1 := hrel 1 (by simp)
        obtain ⟨vs, hxx, hvs, hvr⟩ := h0.agg_inv
        have hv0 := hvr 0 (by simp)
        obtain ⟨C', e1, e2, e3, e4, e5⟩ := gr_frz hg1 hv0 (by rw [hH1]; exact hk) hl hm hgt hs2
        have hsb : Scoped m b' := by simp only [Scoped, ScopedL] at hsc; exact hsc.2.1
        have hsc' : ScopedL m cs' := by simp only [Scoped, ScopedL] at hsc; exact hsc.1.2
        obtain ⟨q1, q2⟩ := fgtL_spec _ _ hcc
        refine ⟨_, .tup [.agg (.sl .none xs :: cs'), b'], C', hrun, e1, e3, fun C0 hx h0 _ => (hx.take (by rw [h0]; exact ho.2.1)).trans e4, .tup _ us hsz (fun i hi => ?_), rfl, e2.trans hht⟩
        match i, hi with
        | 0, _ =>
          simp only [List.getElem_cons_zero]
          rw [hxx]
          refine .agg _ vs (by simp only [List.length_cons] at hvs ⊢; omega) (fun j hj => ?_)
          match j, hj with
          | 0, _ => exact e5
          | j + 1, hj =>
            simp only [List.length_cons] at hj
            have hj1 : j < cs.length := by omega
            have hj2 : j < cs'.length := by omega
            have h3 := hvr (j + 1) (by simp only [List.length_cons]; omega)
            exact ((q2 j hj1 hj2 _ _ h3).take (ScopedL_iff.1 hsc' _ (List.getElem_mem hj2))).ext e4
        | 1, _ => exact ((fgtW_spec _ _ hbb _ _ h1).take hsb).ext e4
  cases e <;> first
    | exact fin (key hh)
    | exact hh.elim
end
section rules
variable {P : Program} {st : ASt}
theorem finVH_n {H H1 : List AObj} {m : Nat} {v : AV} {rs : List ResultVar} : finVH P H m v H1 rs .normal st = finR P rs st (finHH H m v H1 st.heap) := (rfl)
theorem finVH_r {H H1 : List AObj} {m : Nat} {v : AV} {rs : List ResultVar} : finVH P H m v H1 rs .ret st = finR P rs st (finHH H m v H1 st.heap) := (rfl)
end rules
attribute [push_cast] finVH_n finVH_r finHH
end Ab
set_option maxRecDepth 10000
namespace Ab
open Go Go.Proofs
def chainOk (rs : List (Term × Term)) (T : List Term) : Prop := ∀ i (h : i + 1 < T.length), ∃ s, doE rs (T[i]'(by omega)) s = (T[i + 1], 0)
theorem chain_snoc {rs : List (Term × Term)} {pre : List Term} {t u : Term} {s : Int × List Int} (h : chainOk rs (pre ++ [t])) (hd : doE rs t s = (u, 0)) : chainOk rs (pre ++ [t] ++ [u]) := by
  intro i hi
  by_cases hl : i + 1 < (pre ++ [t]).length
  · obtain ⟨s, hs⟩ := h i hl
    refine ⟨s, ?_⟩
    rw [List.getElem_append_left (by omega), List.getElem_append_left hl]
    exact hs
  · have hl2 : i = pre.length := by simp at hi hl; omega
    subst hl2
    refine ⟨s, ?_⟩
    have e1 : (pre ++ [t] ++ [u])[pre.length]'(by omega) = t := by simp
    have e2 : (pre ++ [t] ++ [u])[pre.length + 1]'hi = u := by simp
    rw [e1, e2]; exact hd
theorem run_chain {rs : List (Term × Term)} (hr : sysP rs = 0) : ∀ (l : List (Int × List Int)) (pre : List Term) (t : Term), (runF rs (pre ++ [t]) t l).2 = 0 → chainOk rs (pre ++ [t]) → (∀ x, x ∈ pre ++ [t] → checkP x = 0) →
    chainOk rs (runF rs (pre ++ [t]) t l).1 ∧ (∀ x, x ∈ (runF rs (pre ++ [t]) t l).1 → checkP x = 0) ∧ (runF rs (pre ++ [t]) t l).1.length = pre.length + 1 + l.length
  | [], pre, t, _, h1, h2 => ⟨h1, h2, by simp [runF]⟩
  | s :: l, pre, t, h0, h1, h2 => by
    rw [runF] at h0 ⊢
    by_cases hd : (doE rs t s).2 ≠ 0
    · rw [if_pos hd] at h0; exact absurd h0 hd
    · rw [if_neg hd] at h0 ⊢
      have hd' : (doE rs t s).2 = 0 := by simpa using hd
      have hck := do_check (s := s) hr (h2 t (by simp)) hd'
      obtain ⟨a, b, c⟩ := run_chain hr l (pre ++ [t]) (doE rs t s).1 h0 (chain_snoc h1 (Prod.ext rfl hd')) (fun x hx => by
        rcases List.mem_append.1 hx with hx | hx
        · exact h2 x hx
        · rw [List.mem_singleton] at hx; rw [hx]; exact hck)
      refine ⟨a, b, ?_⟩
      rw [c]; simp; omega
theorem terms_chain {rs : List (Term × Term)} (hr : sysP rs = 0) {c : Term × List (Int × List Int)} (h : (termsE rs c).2 = 0) :
    chainOk rs (termsE rs c).1 ∧ (∀ x, x ∈ (termsE rs c).1 → checkP x = 0) ∧ (termsE rs c).1.length = 1 + c.2.length ∧ c.2.length ≤ 4096 := by
  unfold termsE at h ⊢
  by_cases h1 : 4096 < c.2.length
  · rw [if_pos h1] at h; cases h
  · rw [if_neg h1] at h ⊢
    by_cases h2 : checkP c.1 ≠ 0
    · rw [if_pos h2] at h; exact absurd h h2
    · rw [if_neg h2] at h ⊢
      have h2' : checkP c.1 = 0 := by simpa using h2
      obtain ⟨a, b, d⟩ := run_chain hr c.2 [] c.1 h (fun i hi => by simp at hi) (fun x hx => by simp at hx; rw [hx]; exact h2')
      exact ⟨a, b, by simpa using d, by omega⟩
theorem run_last {rs : List (Term × Term)} : ∀ (l : List (Int × List Int)) (pre : List Term) (t : Term), (runF rs (pre ++ [t]) t l).2 = 0 → ∃ q u, (runF rs (pre ++ [t]) t l).1 = q ++ [u] ∧ q.length = pre.length + l.length
  | [], pre, t, _ => ⟨pre, t, rfl, rfl⟩
  | s :: l, pre, t, h => by
    rw [runF] at h ⊢
    by_cases hd : (doE rs t s).2 ≠ 0
    · rw [if_pos hd] at h; exact absurd h hd
    · rw [if_neg hd] at h ⊢
      obtain ⟨q, u, e1, e2⟩ := run_last l (pre ++ [t]) (doE rs t s).1 h
      exact ⟨q, u, e1, by rw [e2]; simp; omega⟩
theorem terms_last {rs : List (Term × Term)} {c : Term × List (Int × List Int)} (h : (termsE rs c).2 = 0) : ∃ q u, (termsE rs c).1 = q ++ [u] ∧ q.length = c.2.length ∧ c.2.length ≤ 4096 := by
  unfold termsE at h ⊢
  by_cases h1 : 4096 < c.2.length
  · rw [if_pos h1] at h; cases h
  · rw [if_neg h1] at h ⊢
    by_cases h2 : checkP c.1 ≠ 0
    · rw [if_pos h2] at h; exact absurd h h2
    · rw [if_neg h2] at h ⊢
      obtain ⟨q, u, e1, e2⟩ := run_last c.2 [] c.1 h
      exact ⟨q, u, e1, by simpa using e2, by omega⟩
end Ab
set_option maxRecDepth 10000
namespace Ab
open Go Go.Proofs
def termsC (rs : List (Term × Term)) (c : Term × List (Int × List Int)) : List Term × Int := if sysP rs ≠ 0 then ([], sysP rs) else termsE rs c
set_option maxHeartbeats 2000000 in
theorem run_ac (rs : List (Term × Term)) (hr : sysP rs = 0) (c : Term × List (Int × List Int)) (hc1 : c.1.bulk ≤ 1099511627775) (hc2 : c.2.length < 1099511627776) (hc3 : ∀ x, x ∈ c.2 → x.2.length < 1099511627776) (H : List AObj) :
    ACall Tryz.prog 44 [.sl .none (encL encRu rs), encCh c] H (fun r H' => r = encTE (termsE rs c) ∧ H' = H) := by
  refine ACall_VA (H.length) 51 [.tmp 4, .tmp 5] Tryz.func44 rfl rfl rfl ?_
  refine AW_reserve 1 ?_
  refine AW_seq (AW_of_W ?_)
  simp only [push_cast, Nat.reduceAdd, Nat.reduceSub, Nat.reduceMul, Nat.reduceLT, Nat.reduceLeDiff, Nat.reduceEqDiff, Int.reduceToNat, ↓reduceIte]
  refine AW_seq (AW_of_W ?_)
  simp only [push_cast, Nat.reduceAdd, Nat.reduceSub, Nat.reduceMul, Nat.reduceLT, Nat.reduceLeDiff, Nat.reduceEqDiff, Int.reduceToNat, ↓reduceIte]
  refine cI (fun h => ?_) (fun h => ?_)
  · have e : termsE rs c = ([], 3) := if_pos (by omega)
    rw [e]
    simp only [push_cast, Nat.reduceAdd, Nat.reduceSub, Nat.reduceMul, Nat.reduceLT, Nat.reduceLeDiff, Nat.reduceEqDiff, Int.reduceToNat, ↓reduceIte, encTE, encTs_nil]
  · have e0 : termsE rs c = if checkP c.1 ≠ 0 then ([], checkP c.1) else runF rs [c.1] c.1 c.2 := if_neg (by omega)
    refine AW_seq (AW_of_W ?_)
    simp only [push_cast, Nat.reduceAdd, Nat.reduceSub, Nat.reduceMul, Nat.reduceLT, Nat.reduceLeDiff, Nat.reduceEqDiff, Int.reduceToNat, ↓reduceIte]
    refine (check_ac c.1 hc1 _).to ?_
    simp only [push_cast, Nat.reduceAdd, Nat.reduceSub, Nat.reduceMul, Nat.reduceLT, Nat.reduceLeDiff, Nat.reduceEqDiff, Int.reduceToNat, ↓reduceIte]
    refine cI (fun h2 => ?_) (fun h2 => ?_)
    · refine AW_seq ?_
      refine AW_regionAt _ [_, _, _] _ _ rfl rfl ?_
      simp only [push_cast, Nat.reduceAdd, Nat.reduceSub, Nat.reduceMul, Nat.reduceLT, Nat.reduceLeDiff, Nat.reduceEqDiff, Int.reduceToNat, ↓reduceIte]
      refine (own_ac c.1 hc1 _).to ?_
      simp only [push_cast, Nat.reduceAdd, Nat.reduceSub, Nat.reduceMul, Nat.reduceLT, Nat.reduceLeDiff, Nat.reduceEqDiff, Int.reduceToNat, ↓reduceIte]
      refine bsliceG_sound H.length ?_
      simp only [push_cast, Nat.reduceAdd, Nat.reduceSub, Nat.reduceMul, Nat.reduceLT, Nat.reduceLeDiff, Nat.reduceEqDiff, Int.reduceToNat, ↓reduceIte, bsliceG]
      refine AW_of_W ?_
      simp only [push_cast, Nat.reduceAdd, Nat.reduceSub, Nat.reduceMul, Nat.reduceLT, Nat.reduceLeDiff, Nat.reduceEqDiff, Int.reduceToNat, ↓reduceIte]
      have e1 : termsE rs c = runF rs [c.1] c.1 c.2 := e0.trans (if_neg (by simpa using h2))
      refine AW_loopW (maskG 53 [0, 6, 19, 0, 0]) (fun (q : Nat × List Term × Term) => [(29, .int .i64 q.1), (7, gSl H.length (encTs (q.2.1 ++ [q.2.2])))]) (fun q => H ++ [gTok 25 3 (encTs (q.2.1 ++ [q.2.2])), .cells [.str c.1.name, .bool c.1.var, .sl .none (encTs c.1.args), .sl .none (encL encSt c.2)]]) (fun q => q.1 ≤ c.2.length ∧ q.2.1.length = q.1 ∧ checkP q.2.2 = 0 ∧ termsE rs c = runF rs (q.2.1 ++ [q.2.2]) q.2.2 (c.2.drop q.1)) (fun q => c.2.length - q.1) (0, [], c.1) ⟨Nat.zero_le _, rfl, by simpa using h2, by rw [e1]; rfl⟩ (by simp only [push_cast, Nat.reduceAdd, Nat.reduceSub, Nat.reduceMul, Nat.reduceLT, Nat.reduceLeDiff, Nat.reduceEqDiff, Int.reduceToNat, ↓reduceIte, List.nil_append, encTs_one, gSl_cons, gTok_cons]) (fun q hq => ?_)
      obtain ⟨i, pre, u⟩ := q
      obtain ⟨q1, q2, q3, q4⟩ := hq
      simp only at q1 q2 q3 q4
      obtain ⟨acc, hacc⟩ : ∃ acc, acc = pre ++ [u] := ⟨_, rfl⟩
      have hal : acc.length = i + 1 := by rw [hacc, ← q2]; simp
      have hget : ∀ h, acc[i]'h = u := by intro h; simp only [hacc, ← q2]; simp
      rw [← hacc] at q4 ⊢
      simp only [push_cast, Nat.reduceAdd, Nat.reduceSub, Nat.reduceMul, Nat.reduceLT, Nat.reduceLeDiff, Nat.reduceEqDiff, Int.reduceToNat, ↓reduceIte]
      refine cI (fun h => ?_) (fun h => ?_)
      · have hil : i < c.2.length := by omega
        refine ⟨hil, ?_⟩
        obtain ⟨s, hs⟩ : ∃ s, s = c.2[i]'hil := ⟨_, rfl⟩
        have hsb : s.2.length < 1099511627776 := by rw [hs]; exact hc3 _ (List.getElem_mem hil)
        rw [List.drop_eq_getElem_cons hil, ← hs] at q4
        rw [← hs]
        have hst := fun X => do_ac rs hr u q3 s hsb X
        obtain ⟨tk, htk⟩ := gSl_tk H.length (encTs acc)
        rw [htk]
        apply AW_drawE [some 35, some 36, some 37, some 38, some 39, some 40, some 41, some 34, some 42, some 43, some 10, none, some 11] [([false, false], _), ([true, false], _), ([true, true], _)] [none, none, none, none, none, none, none, none, none, none, some 0, some 1, none] 2 [(0, [false, false], [0]), (1, [false, false], [7]), (2, [false, false], [8]), (3, [false, false], [36, 0]), (4, [false, false], [38]), (5, [false, false], [9]), (6, [false, false], [35, 3, 0]), (7, [false, false], [41]), (8, [false, false], [34]), (9, [false, false], [34]), (10, [false, false], []), (11, [true, false], [10, 31]), (12, [true, true], [43]), (0, [true, false], [0]), (1, [true, false], [7]), (2, [true, false], [8]), (3, [true, false], [36, 0]), (4, [true, false], [38]), (5, [true, false], [9]), (6, [true, false], [35, 3, 0]), (7, [true, false], [41]), (8, [true, false], [34]), (9, [true, false], [34]), (9, [true, true], [34])] [_, _, _, _, _, _, _, _, _, _, _, _, _]
        case' hm => exact dr
        case' hn => rfl
        case' hok => rfl
        case' hlen => rfl
        case' hd => rfl
        case' h0 => rfl
        case' hstep =>
         simp only [DAllG, push_cast, Option.isSome_some, Option.isSome_none]
         repeat' apply And.intro
         all_goals (apply DOne_V; simp only [push_cast, Nat.reduceAdd, Nat.reduceSub, Nat.reduceMul, Nat.reduceLT, Nat.reduceLeDiff, Nat.reduceEqDiff, Int.reduceToNat, ↓reduceIte, hget] <;> first | exact rfl | omega | exact ⟨rfl, rfl⟩ | exact trivial | exact ⟨by omega, rfl⟩ | exact ⟨by omega, by omega, rfl⟩ | exact ⟨by omega, rfl, rfl⟩ | exact ⟨by omega, by omega, rfl, rfl⟩ | exact ⟨by omega, by omega, trivial⟩ | exact ⟨by omega, trivial⟩ | (refine (hst _).to ?_; exact ⟨rfl, rfl⟩))
        case' hQ => skip
        simp only [push_cast, Nat.reduceAdd, Nat.reduceSub, Nat.reduceMul, Nat.reduceLT, Nat.reduceLeDiff, Nat.reduceEqDiff, Int.reduceToNat, ↓reduceIte]
        have hd := do_check (s := s) hr q3
        have hapl : acc.length < 1099511627776 := by omega
        refine cI (fun h3 => ?_) (fun h3 => ?_)
        · refine app1_T _ H.length acc (doE rs u s).1 _ (by rw [htk]; rfl) rfl (by exact aget0 _ _ _) sl23 sz25 by25 zr25 rfl (by decide) (by omega) ?_
          simp only [push_cast, Nat.reduceAdd, Nat.reduceSub, Nat.reduceMul, Nat.reduceLT, Nat.reduceLeDiff, Nat.reduceEqDiff, Int.reduceToNat, ↓reduceIte]
          repeat' first | refine ⟨by omega, ?_⟩ | refine cI (fun _ => ?_) (fun _ => ?_)
          refine loopW_n (i + 1, pre ++ [u], (doE rs u s).1) ⟨by simp only; omega, by simp; omega, hd h3, ?_⟩ (by simp only; omega) ?_
          · rw [q4, runF, if_neg (by simpa using h3), hacc]
          · rw [← hacc]
            simp only [push_cast, Nat.reduceAdd, Nat.reduceSub, Nat.reduceMul, Nat.reduceLT, Nat.reduceLeDiff, Nat.reduceEqDiff, Int.reduceToNat, ↓reduceIte]
        · rw [q4, runF, if_pos h3]
          simp only [push_cast, Nat.reduceAdd, Nat.reduceSub, Nat.reduceMul, Nat.reduceLT, Nat.reduceLeDiff, Nat.reduceEqDiff, Int.reduceToNat, ↓reduceIte, encTE, encTs_nil]
      · rw [List.drop_of_length_le (show c.2.length ≤ i by omega)] at q4
        rw [q4]
        simp only [push_cast, Nat.reduceAdd, Nat.reduceSub, Nat.reduceMul, Nat.reduceLT, Nat.reduceLeDiff, Nat.reduceEqDiff, Int.reduceToNat, ↓reduceIte, encTE, runF]
    · have e : termsE rs c = ([], checkP c.1) := e0.trans (if_pos h2)
      rw [e]
      simp only [push_cast, Nat.reduceAdd, Nat.reduceSub, Nat.reduceMul, Nat.reduceLT, Nat.reduceLeDiff, Nat.reduceEqDiff, Int.reduceToNat, ↓reduceIte, encTE, encTs_nil]
theorem dterms_ac (rs : List (Term × Term)) (hlen : rs.length < 1099511627776) (hb : BndR rs) (c : Term × List (Int × List Int)) (hc1 : c.1.bulk ≤ 1099511627775) (hc2 : c.2.length < 1099511627776) (hc3 : ∀ x, x ∈ c.2 → x.2.length < 1099511627776) (H : List AObj) :
    ACall Tryz.prog 9 [.sl .none (encL encRu rs), encCh c] H (fun r H' => r = encTE (termsC rs c) ∧ H' = H) := by
  refine ACall_V (H.length) 15 [.tmp 4, .tmp 5] Tryz.func9 rfl rfl rfl ?_
  simp only [push_cast, Nat.reduceAdd, Nat.reduceSub, Nat.reduceMul, Nat.reduceLT, Nat.reduceLeDiff, Nat.reduceEqDiff, Int.reduceToNat, ↓reduceIte]
  refine (checkSystem_ac rs hlen hb _).to ?_
  simp only [push_cast, Nat.reduceAdd, Nat.reduceSub, Nat.reduceMul, Nat.reduceLT, Nat.reduceLeDiff, Nat.reduceEqDiff, Int.reduceToNat, ↓reduceIte]
  unfold termsC
  refine cI (fun h => ?_) (fun h => ?_)
  · rw [if_neg (by simpa using h)]
    refine (run_ac rs h c hc1 hc2 hc3 _).to ?_
    simp only [push_cast, Nat.reduceAdd, Nat.reduceSub, Nat.reduceMul, Nat.reduceLT, Nat.reduceLeDiff, Nat.reduceEqDiff, Int.reduceToNat, ↓reduceIte, encTE]
  · rw [if_pos h]
    simp only [push_cast, Nat.reduceAdd, Nat.reduceSub, Nat.reduceMul, Nat.reduceLT, Nat.reduceLeDiff, Nat.reduceEqDiff, Int.reduceToNat, ↓reduceIte, encTE, encTs_nil]
def lastC (rs : List (Term × Term)) (c : Term × List (Int × List Int)) : Term × Int := if (termsC rs c).2 ≠ 0 then (zeroT, (termsC rs c).2) else ((termsC rs c).1.getLastD zeroT, 0)
theorem termsC_zero {rs : List (Term × Term)} {c : Term × List (Int × List Int)} (h : (termsC rs c).2 = 0) : sysP rs = 0 ∧ (termsE rs c).2 = 0 ∧ (termsC rs c).1 = (termsE rs c).1 := by
  unfold termsC at h ⊢
  by_cases h1 : sysP rs ≠ 0
  · rw [if_pos h1] at h; exact absurd h h1
  · rw [if_neg h1] at h ⊢
    exact ⟨by simpa using h1, h, rfl⟩
theorem termsC_ne {rs : List (Term × Term)} {c : Term × List (Int × List Int)} (h : (termsC rs c).2 = 0) : ∃ pre u, (termsC rs c).1 = pre ++ [u] ∧ pre.length ≤ 4096 := by
  obtain ⟨_, h2, h3⟩ := termsC_zero h
  obtain ⟨q, u, e1, e2, e3⟩ := terms_last h2
  exact ⟨q, u, by rw [h3, e1], by omega⟩
theorem dlast_ac (rs : List (Term × Term)) (hlen : rs.length < 1099511627776) (hb : BndR rs) (c : Term × List (Int × List Int)) (hc1 : c.1.bulk ≤ 1099511627775) (hc2 : c.2.length < 1099511627776) (hc3 : ∀ x, x ∈ c.2 → x.2.length < 1099511627776) (H : List AObj) :
    ACall Tryz.prog 10 [.sl .none (encL encRu rs), encCh c] H (fun r H' => r = encRE (lastC rs c) ∧ H' = H) := by
  refine ACall_V (H.length) 22 [.cell 4 25, .tmp 5] Tryz.func10 rfl rfl rfl ?_
  simp only [push_cast, Nat.reduceAdd, Nat.reduceSub, Nat.reduceMul, Nat.reduceLT, Nat.reduceLeDiff, Nat.reduceEqDiff, Int.reduceToNat, ↓reduceIte]
  refine (dterms_ac rs hlen hb c hc1 hc2 hc3 _).to ?_
  simp only [push_cast, Nat.reduceAdd, Nat.reduceSub, Nat.reduceMul, Nat.reduceLT, Nat.reduceLeDiff, Nat.reduceEqDiff, Int.reduceToNat, ↓reduceIte, encTE]
  unfold lastC
  refine cI (fun h => ?_) (fun h => ?_)
  · rw [if_neg (by simpa using h)]
    obtain ⟨pre, u, he, hp⟩ := termsC_ne h
    rw [he]
    simp only [push_cast, Nat.reduceAdd, Nat.reduceSub, Nat.reduceMul, Nat.reduceLT, Nat.reduceLeDiff, Nat.reduceEqDiff, Int.reduceToNat, ↓reduceIte]
    have hl : (pre ++ [u]).length = pre.length + 1 := by simp
    have hg : ∀ i (h : i < (pre ++ [u]).length), i = pre.length → (pre ++ [u])[i]'h = u := by intro i h e; subst e; simp
    have hlast : (pre ++ [u]).getLastD zeroT = u := by simp
    rw [hlast]
    refine ⟨⟨by omega, by omega⟩, by first | omega | simp, ⟨by first | omega | simp, ?_⟩⟩
    simp
  · rw [if_pos h]
    simp only [push_cast, Nat.reduceAdd, Nat.reduceSub, Nat.reduceMul, Nat.reduceLT, Nat.reduceLeDiff, Nat.reduceEqDiff, Int.reduceToNat, ↓reduceIte, encRE, zeroT, encTs_nil]
end Ab
set_option maxRecDepth 10000
namespace Ab
open Go Go.Proofs
section
variable {P : Program} {ro : Option Nat} {st : ASt} {K : AV → List AObj → Prop} {dst : Option Tmp} {ty : TypeId} {pos : String} {after : Array Edge} {guard : Option (Nat × Bool)}
theorem made_one (z : Value) (n : Nat) (c : Array Value) (h : c.toList = [z]) : (madeCells c n).toList = List.replicate n z := by
  have hc : c = #[z] := by
    apply Array.ext'
    exact h
  subst hc
  apply List.ext_getElem
  · simp [madeCells]
  · intro i h1 h2
    simp [madeCells, Nat.mod_one]
theorem AOp_make1 {t e by_ : Nat} {l c : Operand} (n : Nat) (kl kc : IntKind) (z : Value) (hl : st.opd l = .int kl (n : Nat)) (hc : st.opd c = .int kc (n : Nat)) (ht : SliceT P t e) (hsz : SzOf P e 1) (hby : BytesOf P e by_) (hz : ZeroOf P e [z]) (hzc : (ofVal z).isCell = true) (hb : by_ ≤ 100) (hn : n ≤ 1099511627776)
    (k : K (.arr st.heap.length 0 n) (st.heap ++ [.cells (List.replicate n (ofVal z))])) : AOp P ro ⟨dst, .makeSlice t l c, ty, pos, after, guard⟩ K st :=
  AOp_value (fun ρ => semAt_of (fun c => by simp) ro ρ) fun C a hg hH hs => by
    have e1 := hs.opd l
    have e2 := hs.opd c
    rw [hl] at e1
    rw [hc] at e2
    have e1 := e1.int_inv
    have e2 := e2.int_inv
    obtain ⟨i, z', hi, i1, i2, i3, i4⟩ := info_of hsz hby hz
    have hbb : by_ * n ≤ 100 * 1099511627776 := Nat.mul_le_mul hb hn
    have hb2 : (by_ : Int) * (n : Int) ≤ 281474976710656 := by
      have : ((by_ * n : Nat) : Int) ≤ 281474976710656 := by omega
      rwa [Int.natCast_mul] at this
    have hrun := run_make (P := P) C.w t e i z' ht hi i3 kl kc (n : Nat) (n : Nat) (by omega) (Int.le_refl _) (by rw [i2]; exact hb2) (by omega)
    rw [i1, Nat.mul_one, Int.toNat_natCast] at hrun
    obtain ⟨cs, hcs⟩ : ∃ cs, cs = madeCells z'.cells n := ⟨_, rfl⟩
    have hcl : cs.toList = List.replicate n z := by rw [hcs]; exact made_one z n _ i4
    have hcz : cs.size = n := by have := congrArg List.length hcl; simpa using this
    rw [← hcs] at hrun
    have hcg : ∀ j (h : j < cs.size), cs[j] = z := fun j h => by
      have h1 : cs.toList[j]'(by simpa using h) = z := by simp [hcl]
      simpa using h1
    obtain ⟨hg', he⟩ := step_new hg (.cells (List.replicate n (ofVal z))) (.cells cs e) (C.w.alloc (.cells cs e)) rfl ⟨rfl, rfl, rfl⟩ (by simp [AObj.kind]) rfl (fun he => by
      refine ⟨cs, e, ?_, ?_, ?_, ?_⟩
      · simp only [if_true]; exact heap_alloc_new _ _
      · simp [hcz]
      · simp; exact hg.fresh _ (Nat.le_refl _)
      · intro j hj hj'
        rw [hcg j hj']
        have := VRel.ofVal (C := { S := C.S, μ := fun k => if k = C.H.length then C.w.heap.size else C.μ k, H := C.H ++ [AObj.cells (List.replicate n (ofVal z))], w := C.w.alloc (.cells cs e) }) z
        refine ⟨by simpa using this, ?_⟩
        simpa using hzc)
    refine ⟨_, .slice (some ⟨C.w.heap.size, 0, none⟩) n n, .arr st.heap.length 0 n, ?_, hg', he, ?_, ?_⟩
    · simp [execOp, e1, e2, hrun]
    · have := VRel.arr (C := { S := C.S, μ := fun k => if k = C.H.length then C.w.heap.size else C.μ k, H := C.H ++ [AObj.cells (List.replicate n (ofVal z))], w := C.w.alloc (.cells cs e) }) st.heap.length 0 n n ⟨.cells (List.replicate n (ofVal z)), by simp [hH], rfl⟩ (Nat.le_refl _)
      rw [← hH] at this ⊢
      simpa using this
    · rw [← hH] at k ⊢; exact k
end
end Ab
set_option maxRecDepth 10000
namespace Ab
open Go Go.Proofs
def keyP : Term → List UInt8
  | .mk n u xs => n ++ ((if u then 63 else 40) :: ((xs.map keyP).flatten ++ [41]))
theorem keyP_mk (n : List UInt8) (u : Bool) (xs : List Term) : keyP (.mk n u xs) = n ++ ((if u then 63 else 40) :: (xs.flatMap keyP ++ [41])) := by simp [keyP, List.flatMap]
def markB (c : UInt8) : Bool := decide (c = 40) || decide (c = 41) || decide (c = 63)
theorem split_mark : ∀ (n m : List UInt8) (c d : UInt8) (a b : List UInt8), (∀ x, x ∈ n → markB x = false) → (∀ x, x ∈ m → markB x = false) → markB c = true → markB d = true → n ++ c :: a = m ++ d :: b → n = m ∧ c = d ∧ a = b
  | [], [], c, d, a, b, _, _, _, _, h => by simpa using h
  | [], y :: m, c, d, a, b, _, h2, hc, _, h => by
    simp only [List.nil_append, List.cons_append, List.cons.injEq] at h
    have := h2 y (by simp)
    rw [← h.1, hc] at this; cases this
  | x :: n, [], c, d, a, b, h1, _, _, hd, h => by
    simp only [List.nil_append, List.cons_append, List.cons.injEq] at h
    have := h1 x (by simp)
    rw [h.1, hd] at this; cases this
  | x :: n, y :: m, c, d, a, b, h1, h2, hc, hd, h => by
    simp only [List.cons_append, List.cons.injEq] at h
    obtain ⟨e1, e2, e3⟩ := split_mark n m c d a b (fun z hz => h1 z (by simp [hz])) (fun z hz => h2 z (by simp [hz])) hc hd h.2
    exact ⟨by rw [h.1, e1], e2, e3⟩
theorem inName_markF : ∀ i : Fin 256, inNameB (UInt8.ofNat i.1) = true → markB (UInt8.ofNat i.1) = false := by decide +kernel
theorem inName_mark (c : UInt8) (h : inNameB c = true) : markB c = false := by
  have := inName_markF ⟨c.toNat, c.toNat_lt⟩
  simp only [UInt8.ofNat_toNat] at this
  exact this h
theorem name_mark {n : List UInt8} {b : Bool} (h : isNameP n b = true) : n ≠ [] ∧ ∀ c, c ∈ n → markB c = false := by
  unfold isNameP at h
  simp only [Bool.and_eq_true, decide_eq_true_eq, Bool.not_eq_true', List.any_eq_false, Bool.not_eq_true'] at h
  obtain ⟨_, h1, h2⟩ := h
  cases b with
  | false =>
    simp only [Bool.false_eq_true, if_false] at h1 h2
    exact ⟨h1, fun c hc => inName_mark c (by simpa using h2 c hc)⟩
  | true =>
    simp only [if_true] at h1 h2
    unfold trimSuffix at h1 h2
    by_cases hc : ([35] : List UInt8).length ≤ n.length ∧ n.drop (n.length - ([35] : List UInt8).length) = [35]
    · rw [if_pos hc] at h1 h2
      have e := List.take_append_drop (n.length - ([35] : List UInt8).length) n
      rw [hc.2] at e
      refine ⟨fun e0 => by rw [e0] at hc; simp at hc, fun c hcm => ?_⟩
      rw [← e, List.mem_append] at hcm
      rcases hcm with hcm | hcm
      · exact inName_mark c (by simpa using h2 c hcm)
      · rw [List.mem_singleton] at hcm; subst hcm; rfl
    · rw [if_neg hc] at h1 h2
      exact ⟨h1, fun c hc => inName_mark c (by simpa using h2 c hc)⟩
theorem key_inj (t : Term) : ∀ u r r', formedP t = true → formedP u = true → keyP t ++ r = keyP u ++ r' → t = u ∧ r = r' := by
  induction t using Term.ind with | _ n v xs ih
  intro u r r' ht hu h
  obtain ⟨m, w, ys⟩ := u
  have nm : ∀ {n : List UInt8} {v : Bool} {xs : List Term}, formedP (.mk n v xs) = true → (n ≠ [] ∧ ∀ c, c ∈ n → markB c = false) ∧ ∀ x, x ∈ xs → formedP x = true := by
    intro n v xs h
    rw [formedP_mk] at h
    cases v with
    | true =>
      simp only [if_true, Bool.and_eq_true, decide_eq_true_eq] at h
      have := List.eq_nil_of_length_eq_zero h.1
      subst this
      exact ⟨name_mark h.2, fun x hx => by simp at hx⟩
    | false =>
      simp only [Bool.false_eq_true, if_false, Bool.and_eq_true, List.all_eq_true] at h
      exact ⟨name_mark h.1.2, h.2⟩
  obtain ⟨⟨_, a2⟩, a3⟩ := nm ht
  obtain ⟨⟨_, b2⟩, b3⟩ := nm hu
  rw [keyP_mk, keyP_mk, List.append_assoc, List.append_assoc, List.cons_append, List.cons_append] at h
  obtain ⟨e1, e2, e3⟩ := split_mark _ _ _ _ _ _ a2 b2 (by cases v <;> rfl) (by cases w <;> rfl) h
  have hv : v = w := by cases v <;> cases w <;> simp_all
  have key : ∀ xs' ys' : List Term, (∀ x, x ∈ xs' → x ∈ xs) → (∀ y, y ∈ ys' → formedP y = true) → xs'.flatMap keyP ++ (41 :: r) = ys'.flatMap keyP ++ (41 :: r') → xs' = ys' ∧ r = r' := by
    have hd : ∀ (y : Term) (ys' : List Term) (s s' : List UInt8), formedP y = true → ¬ (41 :: s = keyP y ++ s') := by
      intro y ys' s s' hy e
      obtain ⟨k, z, zs⟩ := y
      obtain ⟨⟨c1, c2⟩, _⟩ := nm hy
      cases k with
      | nil => exact c1 rfl
      | cons c k =>
        rw [keyP_mk] at e
        simp only [List.cons_append, List.cons.injEq] at e
        have := c2 c (by simp)
        rw [← e.1] at this
        cases this
    intro xs'
    induction xs' with
    | nil =>
      intro ys' _ hy h
      cases ys' with
      | nil => simpa using h
      | cons y ys' =>
        rw [List.flatMap_cons, List.append_assoc] at h
        exact absurd h (hd y ys' _ _ (hy y (by simp)))
    | cons x xs' ih2 =>
      intro ys' hx hy h
      cases ys' with
      | nil =>
        rw [List.flatMap_cons, List.append_assoc] at h
        exact absurd h.symm (hd x xs' _ _ (a3 x (hx x (by simp))))
      | cons y ys' =>
        rw [List.flatMap_cons, List.append_assoc, List.flatMap_cons, List.append_assoc] at h
        obtain ⟨g1, g2⟩ := ih x (hx x (by simp)) y _ _ (a3 x (hx x (by simp))) (hy y (by simp)) h
        obtain ⟨g3, g4⟩ := ih2 ys' (fun z hz => hx z (by simp [hz])) (fun z hz => hy z (by simp [hz])) g2
        exact ⟨by rw [g1, g3], g4⟩
  have e4 : xs.flatMap keyP ++ (41 :: r) = ys.flatMap keyP ++ (41 :: r') := by simpa using e3
  obtain ⟨f1, f2⟩ := key xs ys (fun x h => h) b3 e4
  exact ⟨by rw [e1, hv, f1], f2⟩
theorem keyP_inj {t u : Term} (ht : formedP t = true) (hu : formedP u = true) (h : keyP t = keyP u) : t = u := (key_inj t u [] [] ht hu (by rw [h])).1
end Ab
set_option maxRecDepth 10000
namespace Ab
open Go Go.Proofs
theorem keyP_len (t : Term) : (keyP t).length ≤ 2 * t.bulk := by
  induction t using Term.ind with | _ n u xs ih
  rw [keyP_mk, Term.bulk_mk]
  have : ∀ ys : List Term, (∀ y, y ∈ ys → y ∈ xs) → (ys.flatMap keyP).length ≤ 2 * (ys.map Term.bulk).sum := by
    intro ys
    induction ys with
    | nil => intro _; simp
    | cons y ys ih2 =>
      intro hy
      have h1 := ih y (hy y (by simp))
      have h2 := ih2 (fun z hz => hy z (by simp [hz]))
      simp only [List.flatMap_cons, List.length_append, List.map_cons, List.sum_cons]
      omega
  have := this xs (fun y h => h)
  simp only [List.length_append, List.length_cons, List.length_nil]
  omega
theorem key_ac (t : Term) : t.bulk ≤ 1099511627775 → ∀ H, ACall Tryz.prog 152 [encT t] H (fun r H' => r = .str (keyP t) ∧ H' = H) := by
  induction t using Term.ind with | _ n u xs ih
  intro hb H
  have hl := Term.len_le (n := n) (v := u) (xs := xs)
  obtain ⟨c, hc⟩ : ∃ c : UInt8, c = if u then 63 else 40 := ⟨_, rfl⟩
  rw [keyP_mk, ← hc]
  refine ACall_V (H.length) 28 [.tmp 2] Tryz.func152 rfl rfl rfl ?_
  simp only [push_cast, Nat.reduceAdd, Nat.reduceSub, Nat.reduceMul, Nat.reduceLT, Nat.reduceLeDiff, Nat.reduceEqDiff, Int.reduceToNat, ↓reduceIte, Term.name, Term.var, Term.args]
  have hfin : ∀ i, i ≤ xs.length → ((xs.take i).flatMap keyP).length ≤ 2 * 1099511627775 := by
    intro i hi
    have h1 := keyP_len (.mk n u (xs.take i))
    rw [keyP_mk] at h1
    simp only [List.length_append, List.length_cons] at h1
    have h2 := take_sum_le Term.bulk xs i
    rw [Term.bulk_mk] at hb
    rw [Term.bulk_mk] at h1
    omega
  refine cI (fun h => ?_) (fun h => ?_)
  refine AOp_convert_str [63] .none (by simp only [push_cast, encB, List.map_cons, List.map_nil]; rfl) (by simp) sl175 (by kernel_rfl) (by kernel_rfl) ?_
  have hc63 : c = 63 := by rw [hc, if_pos h]
  rw [← hc63]
  rotate_left
  refine AOp_convert_str [40] .none (by simp only [push_cast, encB, List.map_cons, List.map_nil]; rfl) (by simp) sl175 (by kernel_rfl) (by kernel_rfl) ?_
  have hc63 : c = 40 := by rw [hc, if_neg h]
  rw [← hc63]
  all_goals (
    clear hc63 hc
    simp only [push_cast, Nat.reduceAdd, Nat.reduceSub, Nat.reduceMul, Nat.reduceLT, Nat.reduceLeDiff, Nat.reduceEqDiff, Int.reduceToNat, ↓reduceIte]
    have hnl := Term.name_le (n := n) (v := u) (xs := xs)
    refine ⟨by omega, ?_⟩
    refine AW_loopW (maskG 29 [4, 11, 0, 0]) (fun (i : Nat) => [(18, .int .i64 i), (4, .str (n ++ [c] ++ (xs.take i).flatMap keyP))]) (fun i => H ++ [.cells [.str n, .bool u, .sl .none (encTs xs)]]) (fun i => i ≤ xs.length) (fun i => xs.length - i) 0 (Nat.zero_le _) (by simp only [push_cast, Nat.reduceAdd, Nat.reduceSub, Nat.reduceMul, Nat.reduceLT, Nat.reduceLeDiff, Nat.reduceEqDiff, Int.reduceToNat, ↓reduceIte, List.take_zero, List.flatMap_nil, List.append_nil]) (fun i hi => ?_)
    simp only [push_cast, Nat.reduceAdd, Nat.reduceSub, Nat.reduceMul, Nat.reduceLT, Nat.reduceLeDiff, Nat.reduceEqDiff, Int.reduceToNat, ↓reduceIte]
    refine cI (fun h2 => ?_) (fun h2 => ?_)
    · have hil : i < xs.length := by omega
      have hbi := Term.arg_le (n := n) (v := u) (List.getElem_mem hil)
      have hf1 := hfin i (by omega)
      have hf2 := keyP_len (xs[i]'hil)
      have e : (xs.take (i + 1)).flatMap keyP = (xs.take i).flatMap keyP ++ keyP (xs[i]'hil) := by rw [List.take_succ_eq_append_getElem hil, List.flatMap_append]; simp
      refine ⟨hil, ?_⟩
      refine (ih _ (List.getElem_mem hil) (by omega) _).to ?_
      simp only [push_cast, Nat.reduceAdd, Nat.reduceSub, Nat.reduceMul, Nat.reduceLT, Nat.reduceLeDiff, Nat.reduceEqDiff, Int.reduceToNat, ↓reduceIte]
      refine ⟨by first | omega | (simp only [List.length_append, List.length_cons, List.length_nil]; omega), ?_⟩
      repeat' first | refine ⟨by omega, ?_⟩ | refine cI (fun _ => ?_) (fun _ => ?_)
      refine loopW_n (i + 1) (by omega) (by omega) ?_
      rw [e]
      simp only [push_cast, Nat.reduceAdd, Nat.reduceSub, Nat.reduceMul, Nat.reduceLT, Nat.reduceLeDiff, Nat.reduceEqDiff, Int.reduceToNat, ↓reduceIte, List.append_assoc]
    · have hf1 := hfin xs.length (Nat.le_refl _)
      rw [List.take_length] at hf1
      rw [List.take_of_length_le (show xs.length ≤ i by omega)]
      refine ⟨by first | omega | (simp only [List.length_append, List.length_cons, List.length_nil]; omega), ?_⟩
      simp)
end Ab
set_option maxRecDepth 10000
namespace Ab
open Go Go.Proofs
def idxF : Nat → List Term → List (List UInt8 × Int)
  | _, [] => []
  | i, t :: r => (keyP t, (i : Int)) :: idxF (i + 1) r
theorem idxF_snoc : ∀ (ts : List Term) (i : Nat) (u : Term), idxF i (ts ++ [u]) = idxF i ts ++ [(keyP u, ((i + ts.length : Nat) : Int))]
  | [], i, u => by simp [idxF]
  | t :: r, i, u => by
    have := idxF_snoc r (i + 1) u
    simp only [List.cons_append, idxF, this, List.length_cons]
    rw [show i + 1 + r.length = i + (r.length + 1) by omega]
theorem idxF_get (u : Term) (hu : formedP u = true) : ∀ (ts : List Term) (i : Nat), (∀ x, x ∈ ts → formedP x = true) → aget (idxF i ts) (keyP u) = if u ∈ ts then some ((i + ts.idxOf u : Nat) : Int) else none
  | [], i, _ => by simp [idxF, aget]
  | t :: r, i, h => by
    have ih := idxF_get u hu r (i + 1) (fun x hx => h x (by simp [hx]))
    rw [idxF, aget, ih]
    by_cases he : t = u
    · subst he; simp
    · have hk : ¬ keyP t = keyP u := fun e => he (keyP_inj (h t (by simp)) hu e)
      have he' : ¬ u = t := fun e => he e.symm
      rw [if_neg hk]
      by_cases hm : u ∈ r
      · have hx : (t :: r).idxOf u = r.idxOf u + 1 := by
          have hb : (t == u) = false := by simpa using he
          rw [List.idxOf_cons, hb]; rfl
        rw [if_pos hm, if_pos (by simp [hm]), hx]
        congr 2; omega
      · rw [if_neg hm, if_neg (by simp [hm, he'])]
theorem idxF_key : ∀ (ts : List Term) (i : Nat) (p : List UInt8 × Int), p ∈ idxF i ts → ∃ t, t ∈ ts ∧ p.1 = keyP t
  | [], _, _, h => by simp [idxF] at h
  | t :: r, i, p, h => by
    rw [idxF] at h
    rcases List.mem_cons.1 h with rfl | h
    · exact ⟨t, by simp, rfl⟩
    · obtain ⟨x, hx, e⟩ := idxF_key r (i + 1) p h
      exact ⟨x, by simp [hx], e⟩
theorem idxF_set {u : Term} (hu : formedP u = true) {ts : List Term} (h : ∀ x, x ∈ ts → formedP x = true) (hn : u ∉ ts) : aset (idxF 0 ts) (keyP u) (ts.length : Int) = idxF 0 (ts ++ [u]) := by
  rw [idxF_snoc, (aget_none (k := keyP u) (m := idxF 0 ts) (fun p hp => by
    obtain ⟨t, ht, e⟩ := idxF_key ts 0 p hp
    rw [e]
    exact fun e2 => hn (by rw [← keyP_inj (h t ht) hu e2]; exact ht))).2]
  simp
structure Edg where
  fr : Int
  to : Int
  st : Int × List Int
  deriving DecidableEq
@[reducible] def encE (e : Edg) : AV := .agg [.int .i64 e.fr, .int .i64 e.to, .int .i64 e.st.1, .sl .none (encP e.st.2)]
theorem uniE (l : List Edg) : Uni (1 + 1 + 2) (encL encE l) = True := eq_true (uni_encL (enc := encE) (k := 4) (fun _ => rfl) l)
theorem scopedE (n : Nat) (l : List Edg) : ScopedL n (encL encE l) = True := eq_true (scoped_encL (fun x => by simp [Scoped, ScopedL, scoped_encP]) l)
attribute [push_cast] uniE scopedE
def addR (most : Nat) (ts : List Term) (u : Term) : Nat × Bool := if u ∈ ts then (ts.idxOf u, true) else if most ≤ ts.length then (0, false) else (ts.length, true)
def addTs (most : Nat) (ts : List Term) (u : Term) : List Term := if u ∈ ts ∨ most ≤ ts.length then ts else ts ++ [u]
def addW (most : Nat) (ts : List Term) (w : Bool) (u : Term) : Bool := if u ∉ ts ∧ most ≤ ts.length then false else w
@[reducible] def mapT (ts : List Term) : List (AV × AV) := amap AV.str (AV.int .i64) (idxF 0 ts)
@[reducible] def exL (H : List AObj) (c2 c3 : AObj) (most : Nat) (ts : List Term) (el : List Edg) (w : Bool) (X : List AObj) : List AObj :=
  .grow 25 3 (flat (encTs ts)) :: gTok 117 4 (encL encE el) :: c2 :: c3 :: .map ts.length (mapT ts) :: .cells [.gr H.length ts.length, gSl (H.length + 1) (encL encE el), .bool w, .map (H.length + 4), .int .i64 (most : Nat)] :: X
@[reducible] def exHeap (H : List AObj) (c2 c3 : AObj) (most : Nat) (ts : List Term) (el : List Edg) (w : Bool) (X : List AObj) : List AObj := H ++ exL H c2 c3 most ts el w X
theorem outok_ex {H L L' Y : List AObj} {m : Nat} (hl : L.length = L'.length) (hm : m = H.length + L.length) (h : ∀ (i : Nat) (o : AObj), L'[i]? = some o → L[i]? = some o ∨ OScoped m o) : OutOk (H ++ L) (H ++ (L' ++ Y)) m := by
  subst hm
  refine ⟨by simp; omega, by simp, fun k hk => ?_⟩
  rcases Nat.lt_or_ge k H.length with h1 | h1
  · exact .inl ⟨by simp; omega, by rw [List.getElem?_append_left h1, List.getElem?_append_left h1]⟩
  · have hk2 : k - H.length < L'.length := by omega
    have e1 : (H ++ (L' ++ Y))[k]? = some L'[k - H.length] := by
      rw [List.getElem?_append_right h1, List.getElem?_append_left hk2, List.getElem?_eq_getElem hk2]
    rcases h (k - H.length) L'[k - H.length] (List.getElem?_eq_getElem hk2) with h2 | h2
    · exact .inl ⟨by simp; omega, by rw [e1, List.getElem?_append_right h1, h2]⟩
    · exact .inr ⟨_, e1, h2⟩
theorem osc_gx (n : Nat) (k len : Nat) (e : Nat) (el : List Edg) (w : Bool) (id : Nat) (mo : Int) (h1 : k < n) (h2 : e < n) (h3 : id < n) : OScoped n (.cells [.gr k len, gSl e (encL encE el), .bool w, .map id, .int .i64 mo]) := by
  have h4 : Scoped n (gSl e (encL encE el)) := by
    cases el with
    | nil => simp [gSl, encL, Scoped, ScopedL]
    | cons a r => exact ⟨h2, of_eq_true (scopedE n (a :: r))⟩
  simp [OScoped, ScopedL, Scoped, h1, h3, h4]
theorem scIx (n ver : Nat) (ts : List Term) : OScoped n (.map ver (amap AV.str (AV.int .i64) (idxF 0 ts))) = True := eq_true (osc_amap _ _ (idxF 0 ts) n ver (fun _ => by simp [Scoped]) (fun _ => by simp [Scoped]))
attribute [push_cast] scIx
theorem flT_len (ts : List Term) : (flat (encTs ts)).length = ts.length * 3 := by rw [flat_length (uni_encTs ts), encTs_length]
theorem splice_T (ts : List Term) (u : Term) (z : List AV) (hz : z.length = 3) : splice (flat (encTs ts) ++ z) (ts.length * 3) [.str u.name, .bool u.var, .sl .none (encTs u.args)] = flat (encTs (ts ++ [u])) := by
  have hl := flT_len ts
  unfold splice
  rw [← hl, List.take_left, List.drop_of_length_le (by rw [List.length_append, hz]; simp), List.append_nil, encTs_append, encTs_one]
  simp [flat, AV.cells]
theorem flT_sc (n : Nat) (ts : List Term) : ScopedL n (flat (encTs ts)) := by
  induction ts with
  | nil => rw [encTs_nil]; exact trivial
  | cons t ts ih =>
    rw [encTs_cons]
    have e : flat (encT t :: encTs ts) = [.str t.name, .bool t.var, .sl .none (encTs t.args)] ++ flat (encTs ts) := by simp [flat, AV.cells]
    rw [e]
    exact ⟨trivial, trivial, scoped_encTs n t.args, ih⟩
section
variable {P : Program} {ro : Option Nat} {st : ASt} {K : AV → List AObj → Prop} {dst : Option Tmp} {ty : TypeId} {pos : String} {after : Array Edge} {guard : Option (Nat × Bool)}
theorem appZ_T {t e by_ : Nat} {s x : Operand} (zs : List Value) (k : Nat) (ts : List Term) (tk : Tok) (hs : st.opd s = .gr k ts.length) (hx : st.opd x = .sl tk [.agg [.str [], .bool false, .sl .zero []]]) (hh : st.heap[k]? = some (.grow e 3 (flat (encTs ts))))
    (ht : SliceT P t e) (hsz : SzOf P e 3) (hby : BytesOf P e by_) (hz : ZeroOf P e zs) (hz0 : zs.length = 3) (hb : by_ ≤ 100) (hl : ts.length < 1099511627776)
    (k' : K (.gr k (ts.length + 1)) (st.heap.set k (.grow e 3 (flat (encTs ts) ++ [.str [], .bool false, .sl .zero []])))) :
    AOp P ro ⟨dst, .call { callee := .builtin .append, args := #[s, x], argTypes := #[t, t] }, ty, pos, after, guard⟩ K st := by
  have h1 : (ts.length + 1) * by_ ≤ 1099511627776 * 100 := Nat.mul_le_mul (by omega) hb
  refine AOp_append_gr1 zs k (encTs ts) [.agg [.str [], .bool false, .sl .zero []]] tk (by rw [encTs_length]; exact hs) hx hh ht hsz hby hz hz0 (by decide) (uni_encTs ts) (by simp [Uni, AV.cells]) (by intro c hc; simp [flat, AV.cells] at hc; rcases hc with rfl | rfl | rfl <;> rfl) (by rw [encTs_length]; simp; omega) (by rw [encTs_length]; simp; omega) ?_
  rw [encTs_length]
  exact k'
end
set_option maxHeartbeats 4000000 in
theorem add2_ac (H : List AObj) (c2 c3 x1 x2 : AObj) (most : Nat) (ts : List Term) (el : List Edg) (w : Bool) (u : Term) (hts : ∀ x, x ∈ ts → formedP x = true) (hu : formedP u = true) (hb : u.bulk ≤ 1099511627775) (hl : ts.length < 1099511627776) :
    ACall Tryz.prog 119 [.ptr (H.length + 5) 0, encT u] (exHeap H c2 c3 most ts el w [x1, x2]) (fun r H' => r = .tup [.int .i64 ((addR most ts u).1 : Nat), .bool (addR most ts u).2] ∧ H' = exHeap H c2 c3 most (addTs most ts u) el (addW most ts w u) [x1, x2]) := by
  have hget := idxF_get u hu ts 0 hts
  refine ACall_V (H.length + 8) 66 [.tmp 4, .tmp 5] Tryz.func119 rfl rfl rfl ?_
  simp only [push_cast, Nat.reduceAdd, Nat.reduceSub, Nat.reduceMul, Nat.reduceLT, Nat.reduceLeDiff, Nat.reduceEqDiff, Int.reduceToNat, ↓reduceIte]
  refine (key_ac u hb _).to ?_
  simp only [push_cast, Nat.reduceAdd, Nat.reduceSub, Nat.reduceMul, Nat.reduceLT, Nat.reduceLeDiff, Nat.reduceEqDiff, Int.reduceToNat, ↓reduceIte]
  refine AOp_lookupOk (strKey un9) (AV.int .i64) (idxF 0 ts) (H.length + 4) ts.length (keyP u) (.int .i64 0) rfl (by exact (agetN _ _ 4).trans rfl) rfl un125 (ZeroV_of (.int .i64 0) (by kernel_rfl)) ?_
  rw [hget]
  unfold addR addTs addW
  by_cases hm : u ∈ ts
  · rw [if_pos hm, if_pos hm, if_pos (.inl hm), if_neg (by simp [hm])]
    simp only [push_cast, Nat.reduceAdd, Nat.reduceSub, Nat.reduceMul, Nat.reduceLT, Nat.reduceLeDiff, Nat.reduceEqDiff, Int.reduceToNat, ↓reduceIte, Option.map_some, Option.getD_some, Option.isSome_some]
    exact outok_ex (L := exL H c2 c3 most ts el w [x1, x2]) (L' := exL H c2 c3 most ts el w [x1, x2]) (Y := [_]) rfl rfl (fun i o h => .inl h)
  · rw [if_neg hm, if_neg hm]
    simp only [push_cast, Nat.reduceAdd, Nat.reduceSub, Nat.reduceMul, Nat.reduceLT, Nat.reduceLeDiff, Nat.reduceEqDiff, Int.reduceToNat, ↓reduceIte, Option.map_none, Option.getD_none, Option.isSome_none]
    apply AW_drawE [some 22, some 23, some 24, some 25, some 26, some 27, some 28, some 29, some 30, some 31, some 32] [([], _)] [none, none, none, none, none, none, none, none, none, none, none] 0 [(0, [], [0]), (1, [], [22]), (2, [], [23]), (3, [], [24]), (4, [], [25]), (5, [], [26]), (6, [], [0]), (7, [], [28]), (8, [], [29]), (9, [], [30]), (10, [], [27, 3])] [_, _, _, _, _, _, _, _, _, _, _]
    case' hm => exact dr
    case' hn => rfl
    case' hok => rfl
    case' hlen => rfl
    case' hd => rfl
    case' h0 => rfl
    case' hstep =>
     simp only [DAllG, push_cast, Option.isSome_some, Option.isSome_none]
     repeat' apply And.intro
     all_goals (apply DOne_V; simp only [push_cast, Nat.reduceAdd, Nat.reduceSub, Nat.reduceMul, Nat.reduceLT, Nat.reduceLeDiff, Nat.reduceEqDiff, Int.reduceToNat, ↓reduceIte] <;> first | exact rfl | omega | exact ⟨rfl, rfl⟩ | exact trivial | exact ⟨by omega, rfl⟩ | exact ⟨by omega, by omega, rfl⟩ | exact ⟨by omega, rfl, rfl⟩ | exact ⟨by omega, by omega, rfl, rfl⟩ | skip)
    case' hQ => skip
    simp only [push_cast, Nat.reduceAdd, Nat.reduceSub, Nat.reduceMul, Nat.reduceLT, Nat.reduceLeDiff, Nat.reduceEqDiff, Int.reduceToNat, ↓reduceIte]
    refine cI (fun h5 => ?_) (fun h5 => ?_)
    · have h5' : most ≤ ts.length := by omega
      rw [if_pos h5', if_pos (.inr h5'), if_pos ⟨hm, h5'⟩]
      simp only [push_cast, Nat.reduceAdd, Nat.reduceSub, Nat.reduceMul, Nat.reduceLT, Nat.reduceLeDiff, Nat.reduceEqDiff, Int.reduceToNat, ↓reduceIte]
      refine outok_ex (L := exL H c2 c3 most ts el w [x1, x2]) (L' := exL H c2 c3 most ts el false [x1, x2]) (Y := [_]) rfl rfl (fun i o h => ?_)
      match i with
      | 0 | 1 | 2 | 3 | 4 => exact .inl h
      | 5 => injection h with h; subst h; exact .inr (osc_gx _ _ _ _ _ _ _ _ (by omega) (by omega) (by omega))
      | i + 6 => exact .inl h
    · have h5' : ¬ most ≤ ts.length := by omega
      rw [if_neg h5', if_neg (by rintro (h | h); exact hm h; exact h5' h), if_neg (by rintro ⟨_, h⟩; exact h5' h)]
      have hset := idxF_set hu hts hm
      apply AW_drawE [some 37, some 38, some 39, some 40, some 41, some 42, some 43, some 44, some 45, some 46, some 47, none] [([false], _), ([true], _)] [none, none, none, none, none, none, none, none, none, none, none, some 0] 1 [(0, [false], [0]), (1, [false], [37]), (2, [false], [38]), (3, [false], [39]), (4, [false], [6]), (5, [false], [0]), (6, [false], [42]), (7, [false], [43]), (8, [false], [44]), (9, [false], [45]), (10, [false], [46]), (11, [false], [40, 0, 5])] [_, _, _, _, _, _, _, _, _, _, _, _]
      case' hm => exact dr
      case' hn => rfl
      case' hok => rfl
      case' hlen => rfl
      case' hd => rfl
      case' h0 => rfl
      case' hstep =>
       simp only [DAllG, push_cast, Option.isSome_some, Option.isSome_none]
       repeat' apply And.intro
       all_goals (apply DOne_V; simp only [push_cast, Nat.reduceAdd, Nat.reduceSub, Nat.reduceMul, Nat.reduceLT, Nat.reduceLeDiff, Nat.reduceEqDiff, Int.reduceToNat, ↓reduceIte] <;> first | exact rfl | omega | exact ⟨rfl, rfl⟩ | exact trivial | exact ⟨by omega, rfl⟩ | exact ⟨by omega, by omega, rfl⟩ | exact ⟨by omega, rfl, rfl⟩ | exact ⟨by omega, by omega, rfl, rfl⟩ | (refine AOp_mapUpdate (strKey un9) (AV.int .i64) (idxF 0 ts) (H.length + 4) ts.length (keyP u) (ts.length : Int) rfl (by exact (agetN _ _ 4).trans rfl) rfl rfl un125 ?_; exact ⟨rfl, rfl⟩))
      case' hQ => skip
      simp only [push_cast, Nat.reduceAdd, Nat.reduceSub, Nat.reduceMul, Nat.reduceLT, Nat.reduceLeDiff, Nat.reduceEqDiff, Int.reduceToNat, ↓reduceIte]
      have hfl := flT_len ts
      apply AW_drawE [some 48, some 49, some 50, some 51, some 52, some 53, some 54, some 55, some 56, some 57, none, some 58, some 59, some 60, none] [([false, false, false], _), ([true, false, false], _), ([true, false, true], _), ([true, true, false], _), ([true, true, true], _)] [none, none, none, none, none, none, none, none, some 0, none, some 1, none, none, none, some 2] 3 [(0, [false, false, false], [0]), (1, [false, false, false], [48]), (2, [false, false, false], [49]), (3, [false, false, false], [50]), (4, [false, false, false], [51]), (5, [false, false, false], [3]), (6, [false, false, false], [52]), (7, [false, false, false], []), (8, [false, false, false], [52, 2]), (9, [true, false, false], [54, 1]), (10, [true, false, false], [53, 3]), (11, [true, false, false], [48]), (12, [true, false, false], [58]), (13, [true, false, false], [59]), (14, [true, false, false], [56, 3]), (9, [true, false, true], [54, 1]), (10, [true, false, true], [53, 3]), (11, [true, true, false], [48]), (11, [true, false, true], [48]), (12, [true, true, false], [58]), (12, [true, false, true], [58]), (13, [true, true, false], [59]), (14, [true, true, false], [56, 3]), (11, [true, true, true], [48]), (12, [true, true, true], [58])] [_, _, _, _, _, _, _, _, _, _, _, _, _, _, _]
      case' hm => exact dr
      case' hn => rfl
      case' hok => rfl
      case' hlen => rfl
      case' hd => rfl
      case' h0 => rfl
      case' hstep =>
       simp only [DAllG, push_cast, Option.isSome_some, Option.isSome_none]
       repeat' apply And.intro
       all_goals (apply DOne_V; simp only [push_cast, Nat.reduceAdd, Nat.reduceSub, Nat.reduceMul, Nat.reduceLT, Nat.reduceLeDiff, Nat.reduceEqDiff, Int.reduceToNat, ↓reduceIte] <;> first | exact rfl | omega | exact ⟨rfl, rfl⟩ | exact trivial | exact ⟨by omega, rfl⟩ | exact ⟨by omega, by omega, rfl⟩ | exact ⟨by omega, rfl, rfl⟩ | exact ⟨by omega, by omega, rfl, rfl⟩ | (refine appZ_T _ H.length ts _ rfl rfl (by exact aget0 _ _ _) sl23 sz25 by25 zr25 rfl (by decide) hl ?_; exact ⟨rfl, rfl⟩) | trace_state)
      case' hQ => skip
      simp only [push_cast, Nat.reduceAdd, Nat.reduceSub, Nat.reduceMul, Nat.reduceLT, Nat.reduceLeDiff, Nat.reduceEqDiff, Int.reduceToNat, ↓reduceIte]
      have hsp := splice_T ts u [.str [], .bool false, .sl .zero []] rfl
      simp only [splice, List.append_assoc, List.cons_append, List.nil_append, List.length_cons, List.length_nil, Nat.zero_add, Nat.reduceAdd] at hsp
      rw [hsp, hset]
      refine ⟨⟨by omega, by omega⟩, ?_, by omega, ?_⟩
      · refine outok_ex (L := exL H c2 c3 most ts el w [x1, x2]) (L' := .grow 25 3 (flat (encTs (ts ++ [u]))) :: gTok 117 4 (encL encE el) :: c2 :: c3 :: .map (ts.length + 1) (mapT (ts ++ [u])) :: .cells [.gr H.length (ts.length + 1), gSl (H.length + 1) (encL encE el), .bool w, .map (H.length + 4), .int .i64 (most : Nat)] :: [x1, x2]) (Y := [_]) rfl rfl (fun i o h => ?_)
        match i with
        | 0 => injection h with h; subst h; exact .inr (flT_sc _ _)
        | 1 | 2 | 3 => exact .inl h
        | 4 => injection h with h; subst h; exact .inr (of_eq_true (scIx _ _ _))
        | 5 => injection h with h; subst h; exact .inr (osc_gx _ _ _ _ _ _ _ _ (by omega) (by omega) (by omega))
        | i + 6 => exact .inl h
      · exact ⟨rfl, rfl⟩
section
variable {P : Program} {ro : Option Nat} {st : ASt} {K : AV → List AObj → Prop} {dst : Option Tmp} {ty : TypeId} {pos : String} {after : Array Edge} {guard : Option (Nat × Bool)}
theorem appZ0_T {t e by_ : Nat} {s x : Operand} (zs : List Value) (k : Nat) (tk : Tok) (hs : st.opd s = .sl .zero []) (hx : st.opd x = .sl tk [.agg [.str [], .bool false, .sl .zero []]]) (hh : st.heap[k]? = some .dead)
    (ht : SliceT P t e) (hsz : SzOf P e 3) (hby : BytesOf P e by_) (hz : ZeroOf P e zs) (hz0 : zs.length = 3) (hb : by_ ≤ 100)
    (k' : K (.gr k 1) (st.heap.set k (.grow e 3 [.str [], .bool false, .sl .zero []]))) :
    AOp P ro ⟨dst, .call { callee := .builtin .append, args := #[s, x], argTypes := #[t, t] }, ty, pos, after, guard⟩ K st :=
  AOp_append_zeroGr k hh zs [.agg [.str [], .bool false, .sl .zero []]] tk hs hx ht hsz hby hz hz0 (by decide) (by simp [Uni, AV.cells]) (by intro c hc; simp [flat, AV.cells] at hc; rcases hc with rfl | rfl | rfl <;> rfl) (by simp) (by simp; omega) (by simp) k'
end
@[reducible] def exL0 (H : List AObj) (c2 c3 : AObj) (most : Nat) : List AObj := [.dead, .dead, c2, c3, .map 0 [], .cells [.sl .zero [], .sl .zero [], .bool true, .map (H.length + 4), .int .i64 (most : Nat)]]
set_option maxHeartbeats 4000000 in
theorem add1_ac (H : List AObj) (c2 c3 : AObj) (most : Nat) (u : Term) (hu : formedP u = true) (hb : u.bulk ≤ 1099511627775) (hm : 1 ≤ most) :
    ACall Tryz.prog 119 [.ptr (H.length + 5) 0, encT u] (H ++ exL0 H c2 c3 most) (fun r H' => r = .tup [.int .i64 0, .bool true] ∧ H' = exHeap H c2 c3 most [u] [] true []) := by
  refine ACall_V (H.length + 6) 66 [.tmp 4, .tmp 5] Tryz.func119 rfl rfl rfl ?_
  simp only [push_cast, Nat.reduceAdd, Nat.reduceSub, Nat.reduceMul, Nat.reduceLT, Nat.reduceLeDiff, Nat.reduceEqDiff, Int.reduceToNat, ↓reduceIte]
  refine (key_ac u hb _).to ?_
  simp only [push_cast, Nat.reduceAdd, Nat.reduceSub, Nat.reduceMul, Nat.reduceLT, Nat.reduceLeDiff, Nat.reduceEqDiff, Int.reduceToNat, ↓reduceIte]
  refine AOp_lookupOk (strKey un9) (AV.int .i64) [] (H.length + 4) 0 (keyP u) (.int .i64 0) rfl (by exact (agetN _ _ 4).trans rfl) rfl un125 (ZeroV_of (.int .i64 0) (by kernel_rfl)) ?_
  simp only [push_cast, Nat.reduceAdd, Nat.reduceSub, Nat.reduceMul, Nat.reduceLT, Nat.reduceLeDiff, Nat.reduceEqDiff, Int.reduceToNat, ↓reduceIte, aget, Option.map_none, Option.getD_none, Option.isSome_none]
  apply AW_drawE [some 22, some 23, some 24, some 25, some 26, some 27, some 28, some 29, some 30, some 31, some 32] [([], _)] [none, none, none, none, none, none, none, none, none, none, none] 0 [(0, [], [0]), (1, [], [22]), (2, [], [23]), (3, [], [24]), (4, [], [25]), (5, [], [26]), (6, [], [0]), (7, [], [28]), (8, [], [29]), (9, [], [30]), (10, [], [27, 3])] [_, _, _, _, _, _, _, _, _, _, _]
  case' hm => exact dr
  case' hn => rfl
  case' hok => rfl
  case' hlen => rfl
  case' hd => rfl
  case' h0 => rfl
  case' hstep =>
   simp only [DAllG, push_cast, Option.isSome_some, Option.isSome_none]
   repeat' apply And.intro
   all_goals (apply DOne_V; simp only [push_cast, Nat.reduceAdd, Nat.reduceSub, Nat.reduceMul, Nat.reduceLT, Nat.reduceLeDiff, Nat.reduceEqDiff, Int.reduceToNat, ↓reduceIte] <;> first | exact rfl | omega | exact ⟨rfl, rfl⟩ | exact trivial | exact ⟨by omega, rfl⟩ | exact ⟨by omega, by omega, rfl⟩ | exact ⟨by omega, rfl, rfl⟩ | exact ⟨by omega, by omega, rfl, rfl⟩ | skip)
  case' hQ => skip
  simp only [push_cast, Nat.reduceAdd, Nat.reduceSub, Nat.reduceMul, Nat.reduceLT, Nat.reduceLeDiff, Nat.reduceEqDiff, Int.reduceToNat, ↓reduceIte]
  refine cI (fun h5 => absurd h5 (by omega)) (fun h5 => ?_)
  apply AW_drawE [some 37, some 38, some 39, some 40, some 41, some 42, some 43, some 44, some 45, some 46, some 47, none] [([false], _), ([true], _)] [none, none, none, none, none, none, none, none, none, none, none, some 0] 1 [(0, [false], [0]), (1, [false], [37]), (2, [false], [38]), (3, [false], [39]), (4, [false], [6]), (5, [false], [0]), (6, [false], [42]), (7, [false], [43]), (8, [false], [44]), (9, [false], [45]), (10, [false], [46]), (11, [false], [40, 0, 5])] [_, _, _, _, _, _, _, _, _, _, _, _]
  case' hm => exact dr
  case' hn => rfl
  case' hok => rfl
  case' hlen => rfl
  case' hd => rfl
  case' h0 => rfl
  case' hstep =>
   simp only [DAllG, push_cast, Option.isSome_some, Option.isSome_none]
   repeat' apply And.intro
   all_goals (apply DOne_V; simp only [push_cast, Nat.reduceAdd, Nat.reduceSub, Nat.reduceMul, Nat.reduceLT, Nat.reduceLeDiff, Nat.reduceEqDiff, Int.reduceToNat, ↓reduceIte] <;> first | exact rfl | omega | exact ⟨rfl, rfl⟩ | exact trivial | exact ⟨by omega, rfl⟩ | exact ⟨by omega, by omega, rfl⟩ | exact ⟨by omega, rfl, rfl⟩ | exact ⟨by omega, by omega, rfl, rfl⟩ | (refine AOp_mapUpdate (strKey un9) (AV.int .i64) [] (H.length + 4) 0 (keyP u) (0 : Int) rfl (by exact (agetN _ _ 4).trans rfl) rfl rfl un125 ?_; exact ⟨rfl, rfl⟩))
  case' hQ => skip
  simp only [push_cast, Nat.reduceAdd, Nat.reduceSub, Nat.reduceMul, Nat.reduceLT, Nat.reduceLeDiff, Nat.reduceEqDiff, Int.reduceToNat, ↓reduceIte]
  apply AW_drawE [some 48, some 49, some 50, some 51, some 52, some 53, some 54, some 55, some 56, some 57, none, some 58, some 59, some 60, none] [([false, false, false], _), ([true, false, false], _), ([true, false, true], _), ([true, true, false], _), ([true, true, true], _)] [none, none, none, none, none, none, none, none, some 0, none, some 1, none, none, none, some 2] 3 [(0, [false, false, false], [0]), (1, [false, false, false], [48]), (2, [false, false, false], [49]), (3, [false, false, false], [50]), (4, [false, false, false], [51]), (5, [false, false, false], [3]), (6, [false, false, false], [52]), (7, [false, false, false], []), (8, [false, false, false], [52, 2]), (9, [true, false, false], [54, 1]), (10, [true, false, false], [53, 3]), (11, [true, false, false], [48]), (12, [true, false, false], [58]), (13, [true, false, false], [59]), (14, [true, false, false], [56, 3]), (9, [true, false, true], [54, 1]), (10, [true, false, true], [53, 3]), (11, [true, true, false], [48]), (11, [true, false, true], [48]), (12, [true, true, false], [58]), (12, [true, false, true], [58]), (13, [true, true, false], [59]), (14, [true, true, false], [56, 3]), (11, [true, true, true], [48]), (12, [true, true, true], [58])] [_, _, _, _, _, _, _, _, _, _, _, _, _, _, _]
  case' hm => exact dr
  case' hn => rfl
  case' hok => rfl
  case' hlen => rfl
  case' hd => rfl
  case' h0 => rfl
  case' hstep =>
   simp only [DAllG, push_cast, Option.isSome_some, Option.isSome_none]
   repeat' apply And.intro
   all_goals (apply DOne_V; simp only [push_cast, Nat.reduceAdd, Nat.reduceSub, Nat.reduceMul, Nat.reduceLT, Nat.reduceLeDiff, Nat.reduceEqDiff, Int.reduceToNat, ↓reduceIte] <;> first | exact rfl | omega | exact ⟨rfl, rfl⟩ | exact trivial | exact ⟨by omega, rfl⟩ | exact ⟨by omega, by omega, rfl⟩ | exact ⟨by omega, rfl, rfl⟩ | exact ⟨by omega, by omega, rfl, rfl⟩ | (refine appZ0_T _ H.length _ rfl rfl (by exact aget0 _ _ _) sl23 sz25 by25 zr25 rfl (by decide) ?_; exact ⟨rfl, rfl⟩) | trace_state)
  case' hQ => skip
  simp only [push_cast, Nat.reduceAdd, Nat.reduceSub, Nat.reduceMul, Nat.reduceLT, Nat.reduceLeDiff, Nat.reduceEqDiff, Int.reduceToNat, ↓reduceIte]
  refine ⟨⟨by omega, by omega⟩, ?_, by omega, by simp [flat, AV.cells], rfl⟩
  refine outok_ex (L := exL0 H c2 c3 most) (L' := [.grow 25 3 [.str u.name, .bool u.var, .sl .none (encTs u.args)], .dead, c2, c3, .map 1 (mapT [u]), .cells [.gr H.length 1, .sl .zero [], .bool true, .map (H.length + 4), .int .i64 (most : Nat)]]) (Y := [_]) rfl rfl (fun i o h => ?_)
  match i with
  | 0 => injection h with h; subst h; exact .inr ⟨trivial, trivial, scoped_encTs _ u.args, trivial⟩
  | 1 | 2 | 3 => exact .inl h
  | 4 => injection h with h; subst h; exact .inr (of_eq_true (scIx _ 1 [u]))
  | 5 => injection h with h; subst h; exact .inr (osc_gx _ _ _ (H.length + 1) [] _ _ _ (by omega) (by omega) (by omega))
  | i + 6 => exact .inl h
end Ab
set_option maxRecDepth 10000
namespace Ab
open Go Go.Proofs
structure GrP where
  ts : List Term
  es : List Edg
  wh : Bool
def zeroG : GrP := ⟨[], [], false⟩
@[reducible] def encG (g : GrP) : AV := .agg [.sl .none (encTs g.ts), .sl .none (encL encE g.es), .bool g.wh]
def exStep (most i : Nat) (g : GrP) (s : Int × List Int) (u : Term) : GrP := ⟨addTs most g.ts u, if (addR most g.ts u).2 then g.es ++ [⟨i, (addR most g.ts u).1, s⟩] else g.es, addW most g.ts g.wh u⟩
def exRow (rs : List (Term × Term)) (most i : Nat) (t : Term) : GrP → List (Int × List Int) → GrP × Int
  | g, [] => (g, 0)
  | g, s :: r => if (doE rs t s).2 ≠ 0 then (zeroG, (doE rs t s).2) else exRow rs most i t (exStep most i g s (doE rs t s).1) r
def expF (rs : List (Term × Term)) (most : Nat) : Nat → Nat → GrP → GrP × Int
  | 0, _, g => (g, 0)
  | n + 1, i, g => match g.ts[i]? with
    | none => (g, 0)
    | some t => if (exRow rs most i t g (allS rs t)).2 ≠ 0 then exRow rs most i t g (allS rs t) else expF rs most n (i + 1) (exRow rs most i t g (allS rs t)).1
def exploreF (rs : List (Term × Term)) (t : Term) (most : Nat) : GrP × Int := expF rs most most 0 ⟨[t], [], true⟩
def encGE (q : GrP × Int) : AV := .tup [encG q.1, .int .i64 q.2]
theorem allS_len {rs : List (Term × Term)} (hr : sysP rs = 0) {t : Term} (ht : checkP t = 0) : (allS rs t).length ≤ 256000 := by
  have hc := check_small ht
  have h2 := allI_len rs (walkT t [])
  have h3 := walkT_length t []
  have h4 : (walkT t []).length * rs.length ≤ 4000 * 64 := Nat.mul_le_mul (by omega) (sys_B hr).1.1
  unfold allS
  omega
theorem addTs_len (most : Nat) (ts : List Term) (u : Term) (h : ts.length ≤ most) : (addTs most ts u).length ≤ most := by
  unfold addTs; split
  · exact h
  · rename_i h1; simp; omega
theorem addTs_mem {most : Nat} {ts : List Term} {u x : Term} (h : x ∈ addTs most ts u) : x ∈ ts ∨ x = u := by
  unfold addTs at h; split at h
  · exact .inl h
  · rcases List.mem_append.1 h with h | h
    · exact .inl h
    · exact .inr (List.mem_singleton.1 h)
theorem addTs_get {most : Nat} {ts : List Term} {u t : Term} {i : Nat} (h : ts[i]? = some t) : (addTs most ts u)[i]? = some t := by
  unfold addTs; split
  · exact h
  · rw [List.getElem?_append_left (List.getElem?_eq_some_iff.1 h).1]; exact h
theorem flT_get (ts : List Term) (i : Nat) (h : i < ts.length) : ((flat (encTs ts)).drop (i * 3)).take 3 = [.str (ts[i]).name, .bool (ts[i]).var, .sl .none (encTs (ts[i]).args)] := by
  have e : ts = ts.take i ++ ts[i] :: ts.drop (i + 1) := by rw [← List.drop_eq_getElem_cons h, List.take_append_drop]
  have hl := flT_len (ts.take i)
  rw [List.length_take, Nat.min_eq_left (by omega)] at hl
  obtain ⟨x, hx⟩ : ∃ x, x = ts[i] := ⟨_, rfl⟩
  rw [← hx] at e ⊢
  rw [e, encTs_append]
  have e2 : flat (encTs (ts.take i) ++ encTs (x :: ts.drop (i + 1))) = flat (encTs (ts.take i)) ++ flat (encTs (x :: ts.drop (i + 1))) := by simp [flat]
  rw [e2, ← hl, List.drop_left, encTs_cons]
  simp [flat, AV.cells]
theorem grS_T (k : Nat) {ts : List Term} (h : ts ≠ []) : AV.gr k ts.length = grS k (encTs ts) := by
  cases ts with
  | nil => exact absurd rfl h
  | cons t r => rw [encTs_cons]; show AV.gr k (r.length + 1) = .gr k ((encTs r).length + 1); rw [encTs_length]
theorem grO_T (e : Nat) {ts : List Term} (h : ts ≠ []) : AObj.grow e 3 (flat (encTs ts)) = grO e 3 (encTs ts) := by
  cases ts with
  | nil => exact absurd rfl h
  | cons t r => rw [encTs_cons]; rfl
theorem osc_exL {n : Nat} {H : List AObj} {c2 c3 : AObj} {most : Nat} {ts : List Term} {el : List Edg} {w : Bool} (h2 : OScoped n c2) (h3 : OScoped n c3) (hn : H.length + 6 ≤ n) : ∀ o, o ∈ exL H c2 c3 most ts el w [] → OScoped n o := by
  intro o ho
  simp only [List.mem_cons, List.not_mem_nil, or_false] at ho
  rcases ho with rfl | rfl | rfl | rfl | rfl | rfl
  · exact flT_sc _ _
  · cases el with
    | nil => exact trivial
    | cons a r => exact trivial
  · exact h2
  · exact h3
  · exact of_eq_true (scIx _ _ _)
  · exact osc_gx _ _ _ _ _ _ _ _ (by omega) (by omega) (by omega)
theorem ok_ex (H : List AObj) (t : Term) (most : Nat) (g : GrP) : OutOk H (H ++ [.grow 25 3 (flat (encTs g.ts)), gTok 117 4 (encL encE g.es), .cells [.str t.name, .bool t.var, .sl .none (encTs t.args)], .cells [.sl .zero [], .sl .zero [], .bool false], .map g.ts.length (mapT g.ts), .cells [.gr H.length g.ts.length, gSl (H.length + 1) (encL encE g.es), .bool g.wh, .map (H.length + 4), .int .i64 (most : Nat)]]) (H.length + 6) :=
  outok_app (L := exL H (.cells [.str t.name, .bool t.var, .sl .none (encTs t.args)]) (.cells [.sl .zero [], .sl .zero [], .bool false]) most g.ts g.es g.wh []) 6 rfl (by simp) (fun o ho => osc_exL (by exact ⟨trivial, trivial, scoped_encTs _ t.args, trivial⟩) (by exact ⟨trivial, trivial, trivial, trivial⟩) (Nat.le_refl _) o (List.mem_of_mem_take ho))
theorem ok_exX (H : List AObj) (t : Term) (most : Nat) (ts : List Term) (el : List Edg) (w : Bool) (X : List AObj) : OutOk H (H ++ exL H (.cells [.str t.name, .bool t.var, .sl .none (encTs t.args)]) (.cells [.sl .zero [], .sl .zero [], .bool false]) most ts el w X) (H.length + 6) :=
  outok_app 6 rfl (by simp) (fun o ho => osc_exL (c2 := .cells [.str t.name, .bool t.var, .sl .none (encTs t.args)]) (c3 := .cells [.sl .zero [], .sl .zero [], .bool false]) (most := most) (ts := ts) (el := el) (w := w) (by exact ⟨trivial, trivial, scoped_encTs _ t.args, trivial⟩) (by exact ⟨trivial, trivial, trivial, trivial⟩) (Nat.le_refl _) o (by simpa using ho))
theorem expF_end (rs : List (Term × Term)) (most n : Nat) (g : GrP) : expF rs most n g.ts.length g = (g, 0) := by
  cases n with
  | zero => rfl
  | succ n => rw [expF, List.getElem?_eq_none (Nat.le_refl _)]
structure GOk (most i j : Nat) (t : Term) (g : GrP) : Prop where
  len : g.ts.length ≤ most
  ck : ∀ x, x ∈ g.ts → checkP x = 0
  es : g.es.length ≤ i * 256000 + j
  at' : g.ts[i]? = some t
theorem GOk.step {rs : List (Term × Term)} (hr : sysP rs = 0) {most i j : Nat} {t : Term} {g : GrP} (h : GOk most i j t g) (ht : checkP t = 0) {s : Int × List Int} (hd : (doE rs t s).2 = 0) : GOk most i (j + 1) t (exStep most i g s (doE rs t s).1) := by
  refine ⟨addTs_len most _ _ h.len, fun x hx => ?_, ?_, addTs_get h.at'⟩
  · rcases addTs_mem hx with hx | rfl
    · exact h.ck x hx
    · exact do_check hr ht hd
  · have := h.es
    unfold exStep
    split <;> simp <;> omega
set_option maxRecDepth 1000000 in
set_option maxHeartbeats 8000000 in
theorem explore_ac (rs : List (Term × Term)) (hr : sysP rs = 0) (t : Term) (ht : checkP t = 0) (most : Nat) (hm : 1 ≤ most) (hm2 : most ≤ 4096) (H : List AObj) :
    ACall Tryz.prog 83 [.sl .none (encL encRu rs), encT t, .int .i64 (most : Nat)] H (fun r H' => r = encGE (exploreF rs t most) ∧ H' = H) := by
  have hts := check_small ht
  refine ACall_VHA (H.length) 95 [.cell 6 69, .tmp 7] Tryz.func83 rfl rfl rfl ?_
  refine AW_reserve 2 ?_
  refine AW_of_W ?_
  simp only [push_cast, Nat.reduceAdd, Nat.reduceSub, Nat.reduceMul, Nat.reduceLT, Nat.reduceLeDiff, Nat.reduceEqDiff, Int.reduceToNat, ↓reduceIte]
  refine (own_ac t (by omega) _).to ?_
  simp only [push_cast, Nat.reduceAdd, Nat.reduceSub, Nat.reduceMul, Nat.reduceLT, Nat.reduceLeDiff, Nat.reduceEqDiff, Int.reduceToNat, ↓reduceIte]
  refine (add1_ac H (.cells [.str t.name, .bool t.var, .sl .none (encTs t.args)]) (.cells [.sl .zero [], .sl .zero [], .bool false]) most t ((check_iff t).1 ht).1 (by omega) hm).to ?_
  simp only [push_cast, Nat.reduceAdd, Nat.reduceSub, Nat.reduceMul, Nat.reduceLT, Nat.reduceLeDiff, Nat.reduceEqDiff, Int.reduceToNat, ↓reduceIte]
  obtain ⟨RES, hRES⟩ : ∃ RES, RES = exploreF rs t most := ⟨_, rfl⟩
  rw [← hRES]
  refine AW_loopW (maskG 98 [0, 5, 1, 0]) (fun (q : Nat × GrP) => [(9, .int .i64 q.1)]) (fun q => H ++ [.grow 25 3 (flat (encTs q.2.ts)), gTok 117 4 (encL encE q.2.es), .cells [.str t.name, .bool t.var, .sl .none (encTs t.args)], .cells [.sl .zero [], .sl .zero [], .bool false], .map q.2.ts.length (mapT q.2.ts), .cells [.gr H.length q.2.ts.length, gSl (H.length + 1) (encL encE q.2.es), .bool q.2.wh, .map (H.length + 4), .int .i64 (most : Nat)]]) (fun q => q.1 ≤ q.2.ts.length ∧ q.2.ts ≠ [] ∧ q.2.ts.length ≤ most ∧ (∀ x, x ∈ q.2.ts → checkP x = 0) ∧ q.2.es.length ≤ q.1 * 256000 ∧ RES = expF rs most (most - q.1) q.1 q.2) (fun q => most - q.1) (0, ⟨[t], [], true⟩) ⟨Nat.zero_le _, by simp, by simpa using hm, by intro x hx; simp at hx; rw [hx]; exact ht, by simp, by rw [hRES]; rfl⟩ (by simp only [push_cast, Nat.reduceAdd, Nat.reduceSub, Nat.reduceMul, Nat.reduceLT, Nat.reduceLeDiff, Nat.reduceEqDiff, Int.reduceToNat, ↓reduceIte]; exact ok_ex H t most ⟨[t], [], true⟩) (fun q hq => ?_)
  obtain ⟨i, g⟩ := q
  obtain ⟨q1, q2, q3, q4, q5, q6⟩ := hq
  simp only at q1 q2 q3 q4 q5 q6
  have hfl := flT_len g.ts
  simp only [push_cast, Nat.reduceAdd, Nat.reduceSub, Nat.reduceMul, Nat.reduceLT, Nat.reduceLeDiff, Nat.reduceEqDiff, Int.reduceToNat, ↓reduceIte]
  refine cI (fun h => ?_) (fun h => ?_)
  · have hil : i < g.ts.length := by omega
    obtain ⟨u, hu⟩ : ∃ u, u = g.ts[i]'hil := ⟨_, rfl⟩
    have hut : g.ts[i]? = some u := by rw [List.getElem?_eq_getElem hil, hu]
    have huc : checkP u = 0 := by rw [hu]; exact q4 _ (List.getElem_mem hil)
    have hus := check_small huc
    have hal := allS_len hr huc
    have hfg := flT_get g.ts i hil
    rw [← hu] at hfg
    obtain ⟨n, hn⟩ : ∃ n, most - i = n + 1 := ⟨most - i - 1, by omega⟩
    rw [hn, expF, hut] at q6
    simp only at q6
    simp only [push_cast, Nat.reduceAdd, Nat.reduceSub, Nat.reduceMul, Nat.reduceLT, Nat.reduceLeDiff, Nat.reduceEqDiff, Int.reduceToNat, ↓reduceIte, hfl, hfg]
    refine ⟨hil, by omega, ?_⟩
    refine (allSteps_ac rs (sys_B hr).1 u (by omega) _).to ?_
    simp only [push_cast, Nat.reduceAdd, Nat.reduceSub, Nat.reduceMul, Nat.reduceLT, Nat.reduceLeDiff, Nat.reduceEqDiff, Int.reduceToNat, ↓reduceIte]
    obtain ⟨l, hl⟩ : ∃ l, l = allS rs u := ⟨_, rfl⟩
    have hlm : ∀ s, s ∈ l → s.2.length < 1099511627776 := fun s hs => by
      rw [hl] at hs
      have := step_len hs
      omega
    rw [← hl] at q6 hal ⊢
    refine AW_loopW (maskG 98 [0, 5, 1, 0, 37, 0, 0]) (fun (q : Nat × GrP) => [(49, .int .i64 q.1)]) (fun q => H ++ [.grow 25 3 (flat (encTs q.2.ts)), gTok 117 4 (encL encE q.2.es), .cells [.str t.name, .bool t.var, .sl .none (encTs t.args)], .cells [.sl .zero [], .sl .zero [], .bool false], .map q.2.ts.length (mapT q.2.ts), .cells [.gr H.length q.2.ts.length, gSl (H.length + 1) (encL encE q.2.es), .bool q.2.wh, .map (H.length + 4), .int .i64 (most : Nat)]]) (fun q => q.1 ≤ l.length ∧ GOk most i q.1 u q.2 ∧ exRow rs most i u g l = exRow rs most i u q.2 (l.drop q.1)) (fun q => l.length - q.1) (0, g) ⟨Nat.zero_le _, ⟨q3, q4, by simpa using q5, hut⟩, by simp⟩ (by simp only [push_cast, Nat.reduceAdd, Nat.reduceSub, Nat.reduceMul, Nat.reduceLT, Nat.reduceLeDiff, Nat.reduceEqDiff, Int.reduceToNat, ↓reduceIte]; exact ok_ex H t most g) (fun q hq => ?_)
    obtain ⟨j, g'⟩ := q
    obtain ⟨p1, p2, p3⟩ := hq
    simp only at p1 p2 p3
    have hil' : i < g'.ts.length := (List.getElem?_eq_some_iff.1 p2.at').1
    have hgu : g'.ts[i]'hil' = u := (List.getElem?_eq_some_iff.1 p2.at').2
    have hfl' := flT_len g'.ts
    have hfg' := flT_get g'.ts i hil'
    rw [hgu] at hfg'
    simp only [push_cast, Nat.reduceAdd, Nat.reduceSub, Nat.reduceMul, Nat.reduceLT, Nat.reduceLeDiff, Nat.reduceEqDiff, Int.reduceToNat, ↓reduceIte]
    refine cI (fun h3 => ?_) (fun h3 => ?_)
    · have hjl : j < l.length := by omega
      obtain ⟨s, hs⟩ : ∃ s, s = l[j]'hjl := ⟨_, rfl⟩
      have hsm := hlm _ (List.getElem_mem hjl)
      rw [List.drop_eq_getElem_cons hjl, ← hs] at p3
      refine ⟨hjl, ?_⟩
      rw [← hs] at hsm ⊢
      have hdo := fun X => do_ac rs hr u huc s hsm X
      apply AW_drawE [some 54, some 55, some 56, some 57, some 58, some 59, some 60, some 61, some 62, some 63, some 64, some 53, some 65, some 66, some 12, none, some 13] [([false, false], _), ([true, false], _), ([true, true], _)] [none, none, none, none, none, none, none, none, none, none, none, none, none, none, some 0, some 1, none] 2 [(0, [false, false], [0]), (1, [false, false], [8]), (2, [false, false], [55]), (3, [false, false], [56]), (4, [false, false], [57]), (5, [false, false], [58]), (6, [false, false], [9]), (7, [false, false], [59, 0]), (8, [false, false], [61]), (9, [false, false], [11]), (10, [false, false], [54, 7, 0]), (11, [false, false], [64]), (12, [false, false], [53]), (13, [false, false], [53]), (14, [false, false], []), (15, [true, false], [12, 52]), (16, [true, true], [66]), (0, [true, false], [0]), (1, [true, false], [8]), (2, [true, false], [55]), (3, [true, false], [56]), (4, [true, false], [57]), (5, [true, false], [58]), (6, [true, false], [9]), (7, [true, false], [59, 0]), (8, [true, false], [61]), (9, [true, false], [11]), (10, [true, false], [54, 7, 0]), (11, [true, false], [64]), (12, [true, false], [53]), (13, [true, false], [53]), (13, [true, true], [53])] [_, _, _, _, _, _, _, _, _, _, _, _, _, _, _, _, _]
      case' hm => exact dr
      case' hn => rfl
      case' hok => rfl
      case' hlen => rfl
      case' hd => rfl
      case' h0 => rfl
      case' hstep =>
       simp only [DAllG, push_cast, Option.isSome_some, Option.isSome_none]
       repeat' apply And.intro
       all_goals (apply DOne_V; simp only [push_cast, Nat.reduceAdd, Nat.reduceSub, Nat.reduceMul, Nat.reduceLT, Nat.reduceLeDiff, Nat.reduceEqDiff, Int.reduceToNat, ↓reduceIte, hfl', hfg'] <;> first | exact rfl | omega | exact ⟨rfl, rfl⟩ | exact trivial | exact ⟨by omega, rfl⟩ | exact ⟨by omega, by omega, rfl⟩ | exact ⟨by omega, rfl, rfl⟩ | exact ⟨by omega, by omega, rfl, rfl⟩ | exact ⟨rfl, by omega, by omega, by omega, rfl⟩ | (refine (hdo _).to ?_; exact ⟨rfl, rfl⟩) | trace_state)
      case' hQ => skip
      simp only [push_cast, Nat.reduceAdd, Nat.reduceSub, Nat.reduceMul, Nat.reduceLT, Nat.reduceLeDiff, Nat.reduceEqDiff, Int.reduceToNat, ↓reduceIte]
      have hgs := fun h => p2.step hr huc (s := s) h
      refine cI (fun h4 => ?_) (fun h4 => ?_)
      · have hu2 := do_check (s := s) hr huc h4
        rw [exRow, if_neg (by simpa using h4)] at p3
        obtain ⟨v, hv⟩ : ∃ v, v = (doE rs u s).1 := ⟨_, rfl⟩
        have hgs := hgs h4
        rw [← hv] at hu2 p3 hgs ⊢
        have hvs := check_small hu2
        have hel := hgs.es
        refine (add2_ac H (.cells [.str t.name, .bool t.var, .sl .none (encTs t.args)]) (.cells [.sl .zero [], .sl .zero [], .bool false]) (.cells [.int .i64 s.1, .sl .none (encP s.2)]) (.cells [.str v.name, .bool v.var, .sl .none (encTs v.args)]) most g'.ts g'.es g'.wh v (fun x hx => ((check_iff x).1 (p2.ck x hx)).1) ((check_iff v).1 hu2).1 (by omega) (by have := p2.len; omega)).to ?_
        simp only [push_cast, Nat.reduceAdd, Nat.reduceSub, Nat.reduceMul, Nat.reduceLT, Nat.reduceLeDiff, Nat.reduceEqDiff, Int.reduceToNat, ↓reduceIte]
        refine cI (fun h5 => ?_) (fun h5 => ?_)
        · have hes : (exStep most i g' s v).es = g'.es ++ [⟨i, (addR most g'.ts v).1, s⟩] := by unfold exStep; rw [h5]; rfl
          have hel2 := p2.es
          apply AW_drawE [some 78, some 79, some 80, some 81, some 82, some 83, some 84, some 85, some 86, some 87, some 88, some 89, some 90, some 91, some 92, none] [([false, false], _), ([true, false], _), ([true, true], _)] [none, none, none, none, none, none, none, none, none, none, none, some 0, none, none, none, some 1] 2 [(0, [false, false], [8]), (1, [false, false], [8]), (2, [false, false], [79]), (3, [false, false], [80]), (4, [false, false], [81]), (5, [false, false], [82]), (6, [false, false], [9]), (7, [false, false], [14]), (8, [false, false], [11]), (9, [false, false], [84, 0, 0]), (10, [false, false], [87]), (11, [false, false], [83, 4]), (12, [true, false], [78]), (13, [true, false], [90]), (14, [true, false], [91]), (15, [true, false], [89, 2]), (0, [true, false], [8]), (1, [true, false], [8]), (2, [true, false], [79]), (3, [true, false], [80]), (4, [true, false], [81]), (6, [true, false], [9]), (7, [true, false], [14]), (8, [true, false], [11]), (9, [true, false], [84, 0, 0]), (12, [true, true], [78]), (13, [true, true], [90])] [_, _, _, _, _, _, _, _, _, _, _, _, _, _, _, _]
          case' hm => exact dr
          case' hn => rfl
          case' hok => rfl
          case' hlen => rfl
          case' hd => rfl
          case' h0 => rfl
          case' hstep =>
           simp only [DAllG, push_cast, Option.isSome_some, Option.isSome_none]
           repeat' apply And.intro
           all_goals (apply DOne_V; simp only [push_cast, Nat.reduceAdd, Nat.reduceSub, Nat.reduceMul, Nat.reduceLT, Nat.reduceLeDiff, Nat.reduceEqDiff, Int.reduceToNat, ↓reduceIte] <;> first | exact rfl | omega | exact ⟨rfl, rfl⟩ | exact trivial | exact ⟨by omega, rfl⟩ | exact ⟨by omega, by omega, rfl⟩ | exact ⟨by omega, rfl, rfl⟩ | exact ⟨by omega, by omega, rfl, rfl⟩ | (refine app1_L encE (sz := 4) (fun _ => rfl) (by intro x c hc; simp [AV.cells] at hc; rcases hc with rfl | rfl | rfl | rfl <;> rfl) _ (H.length + 1) g'.es ⟨i, (addR most g'.ts v).1, s⟩ _ rfl rfl (by exact (agetN _ _ 1).trans rfl) sl67 sz117 by117 zr117 rfl (by decide) (by decide) (by omega) ?_; exact ⟨rfl, rfl⟩) | trace_state)
          case' hQ => skip
          simp only [push_cast, Nat.reduceAdd, Nat.reduceSub, Nat.reduceMul, Nat.reduceLT, Nat.reduceLeDiff, Nat.reduceEqDiff, Int.reduceToNat, ↓reduceIte]
          repeat' first | refine ⟨by omega, ?_⟩ | refine cI (fun _ => ?_) (fun _ => ?_)
          refine loopW_n (j + 1, exStep most i g' s v) ⟨by simp only; omega, hgs, p3⟩ (by simp only; omega) ?_
          rw [hes]
          simp only [push_cast, Nat.reduceAdd, Nat.reduceSub, Nat.reduceMul, Nat.reduceLT, Nat.reduceLeDiff, Nat.reduceEqDiff, Int.reduceToNat, ↓reduceIte]
          exact ⟨⟨rfl, rfl, rfl⟩, ok_exX H t most _ _ _ _⟩
        · have hes : (exStep most i g' s v).es = g'.es := by unfold exStep; rw [Bool.eq_false_iff.2 h5]; rfl
          repeat' first | refine ⟨by omega, ?_⟩ | refine cI (fun _ => ?_) (fun _ => ?_)
          refine loopW_n (j + 1, exStep most i g' s v) ⟨by simp only; omega, hgs, p3⟩ (by simp only; omega) ?_
          rw [hes]
          simp only [push_cast, Nat.reduceAdd, Nat.reduceSub, Nat.reduceMul, Nat.reduceLT, Nat.reduceLeDiff, Nat.reduceEqDiff, Int.reduceToNat, ↓reduceIte]
          exact ⟨⟨rfl, rfl, rfl⟩, ok_exX H t most _ _ _ _⟩
      · rw [exRow, if_pos h4] at p3
        rw [p3, if_pos h4] at q6
        rw [q6]
        exact ⟨ToA.fgt (by simp only [push_cast, Nat.reduceAdd, Nat.reduceSub, Nat.reduceMul, Nat.reduceLT, Nat.reduceLeDiff, Nat.reduceEqDiff, Int.reduceToNat, ↓reduceIte, encGE, zeroG, encTs_nil, encL_nil]), by simp only [push_cast, Nat.reduceAdd, Nat.reduceSub, Nat.reduceMul, Nat.reduceLT, Nat.reduceLeDiff, Nat.reduceEqDiff, Int.reduceToNat, ↓reduceIte, encGE, zeroG, encTs_nil, encL_nil]⟩
    · rw [List.drop_of_length_le (show l.length ≤ j by omega)] at p3
      rw [p3] at q6
      have hes := p2.es
      have hne : g'.ts ≠ [] := fun e => by rw [e] at hil'; exact absurd hil' (by simp)
      repeat' first | refine ⟨by omega, ?_⟩ | refine cI (fun _ => ?_) (fun _ => ?_)
      refine loopW_n (i + 1, g') ⟨by simp only; omega, hne, p2.len, p2.ck, by simp only; omega, ?_⟩ (by simp only; omega) ?_
      · rw [q6]
        simp only [exRow, ne_eq, not_true_eq_false, if_false]
        rw [show most - (i + 1) = n by omega]
      · simp only [push_cast, Nat.reduceAdd, Nat.reduceSub, Nat.reduceMul, Nat.reduceLT, Nat.reduceLeDiff, Nat.reduceEqDiff, Int.reduceToNat, ↓reduceIte]
        exact ok_ex H t most g'
  · have hie : i = g.ts.length := by omega
    rw [hie, expF_end] at q6
    rw [q6]
    simp only [push_cast, Nat.reduceAdd, Nat.reduceSub, Nat.reduceMul, Nat.reduceLT, Nat.reduceLeDiff, Nat.reduceEqDiff, Int.reduceToNat, ↓reduceIte, encGE]
    rw [grS_T H.length q2]
    exact ToA.rowA H.length 25 3 (by rw [← grO_T _ q2]; exact aget0 _ _ _) (by rw [hfl, encTs_length]) (Nat.le_refl _) (flT_sc _ _) (by simp only [push_cast, Nat.reduceAdd, Nat.reduceSub, Nat.reduceMul, Nat.reduceLT, Nat.reduceLeDiff, Nat.reduceEqDiff, Int.reduceToNat, ↓reduceIte]) (by simp only [push_cast, Nat.reduceAdd, Nat.reduceSub, Nat.reduceMul, Nat.reduceLT, Nat.reduceLeDiff, Nat.reduceEqDiff, Int.reduceToNat, ↓reduceIte])
end Ab
set_option maxRecDepth 100000
namespace Ab
open Go Go.Proofs
theorem len64_ac (n : Nat) (hn : n ≤ 1) (H : List AObj) : ACall Tryz.prog 165 [.int .u64 (n : Nat)] H (fun r H' => r = .int .i64 (n : Nat) ∧ H' = H) := by
  rcases (show n = 0 ∨ n = 1 by omega) with rfl | rfl
  · refine ACall_V (H.length) 24 [.tmp 2] Tryz.func165 rfl rfl rfl ?_
    simp only [push_cast, Nat.reduceAdd, Nat.reduceSub, Nat.reduceMul, Nat.reduceLT, Nat.reduceLeDiff, Nat.reduceEqDiff, Int.reduceToNat, ↓reduceIte]
    refine cI (fun h => absurd h (by decide)) (fun _ => ?_)
    refine cI (fun h => absurd h (by decide)) (fun _ => ?_)
    refine cI (fun h => absurd h (by decide)) (fun _ => ?_)
    first | decide +kernel | trace_state
  · refine ACall_V (H.length) 24 [.tmp 2] Tryz.func165 rfl rfl rfl ?_
    simp only [push_cast, Nat.reduceAdd, Nat.reduceSub, Nat.reduceMul, Nat.reduceLT, Nat.reduceLeDiff, Nat.reduceEqDiff, Int.reduceToNat, ↓reduceIte]
    refine cI (fun h => absurd h (by decide)) (fun _ => ?_)
    refine cI (fun h => absurd h (by decide)) (fun _ => ?_)
    refine cI (fun h => absurd h (by decide)) (fun _ => ?_)
    first | decide +kernel | trace_state
theorem len1_ac (n : Nat) (hn : n ≤ 1) (H : List AObj) : ACall Tryz.prog 123 [.int .u64 (n : Nat)] H (fun r H' => r = .int .i64 (n : Nat) ∧ H' = H) := by
  refine ACall_V (H.length) 7 [.tmp 2] Tryz.func123 rfl rfl rfl ?_
  simp only [push_cast, Nat.reduceAdd, Nat.reduceSub, Nat.reduceMul, Nat.reduceLT, Nat.reduceLeDiff, Nat.reduceEqDiff, Int.reduceToNat, ↓reduceIte]
  refine (len64_ac n hn _).to ?_
  simp only [push_cast, Nat.reduceAdd, Nat.reduceSub, Nat.reduceMul, Nat.reduceLT, Nat.reduceLeDiff, Nat.reduceEqDiff, Int.reduceToNat, ↓reduceIte]
theorem ins1_ac (ts : List Term) (hn : ts.length ≤ 1) (H : List AObj) : ACall Tryz.prog 156 [.sl .none (encTs ts), .int .i64 0, .int .i64 (ts.length : Nat), .fn 87 []] H (fun r H' => r = .tup [] ∧ H' = H) := by
  refine ACall_V (H.length) 49 [] Tryz.func156 rfl rfl rfl ?_
  simp only [push_cast, Nat.reduceAdd, Nat.reduceSub, Nat.reduceMul, Nat.reduceLT, Nat.reduceLeDiff, Nat.reduceEqDiff, Int.reduceToNat, ↓reduceIte]
  refine ⟨by omega, ?_⟩
  refine AW_loopW (maskG 53 [0, 0, 0, 0, 4]) (fun (_ : Unit) => []) (fun _ => H) (fun _ => True) (fun _ => 0) () trivial (by simp only [push_cast, Nat.reduceAdd, Nat.reduceSub, Nat.reduceMul, Nat.reduceLT, Nat.reduceLeDiff, Nat.reduceEqDiff, Int.reduceToNat, ↓reduceIte]) (fun _ _ => ?_)
  simp only [push_cast, Nat.reduceAdd, Nat.reduceSub, Nat.reduceMul, Nat.reduceLT, Nat.reduceLeDiff, Nat.reduceEqDiff, Int.reduceToNat, ↓reduceIte]
  refine cI (fun h => absurd h (by omega)) (fun _ => ?_)
  first | (simp only [push_cast, Nat.reduceAdd, Nat.reduceSub, Nat.reduceMul, Nat.reduceLT, Nat.reduceLeDiff, Nat.reduceEqDiff, Int.reduceToNat, ↓reduceIte]; done) | trace_state
theorem pdq1_ac (ts : List Term) (k : Int) (hn : ts.length ≤ 1) (H : List AObj) : ACall Tryz.prog 122 [.sl .none (encTs ts), .int .i64 0, .int .i64 (ts.length : Nat), .int .i64 k, .fn 87 []] H (fun r H' => r = .tup [] ∧ H' = H) := by
  refine ACall_V (H.length) 143 [] Tryz.func122 rfl rfl rfl ?_
  simp only [push_cast, Nat.reduceAdd, Nat.reduceSub, Nat.reduceMul, Nat.reduceLT, Nat.reduceLeDiff, Nat.reduceEqDiff, Int.reduceToNat, ↓reduceIte]
  refine AW_loopW (maskG 148 [0, 0, 0, 0, 0, 5, 0]) (fun (_ : Unit) => []) (fun _ => H) (fun _ => True) (fun _ => 0) () trivial (by simp only [push_cast, Nat.reduceAdd, Nat.reduceSub, Nat.reduceMul, Nat.reduceLT, Nat.reduceLeDiff, Nat.reduceEqDiff, Int.reduceToNat, ↓reduceIte]) (fun _ _ => ?_)
  simp only [push_cast, Nat.reduceAdd, Nat.reduceSub, Nat.reduceMul, Nat.reduceLT, Nat.reduceLeDiff, Nat.reduceEqDiff, Int.reduceToNat, ↓reduceIte]
  refine ⟨by omega, ?_⟩
  refine cI (fun h => ?_) (fun h => absurd h (by omega))
  refine (ins1_ac ts hn _).to ?_
  first | (simp only [push_cast, Nat.reduceAdd, Nat.reduceSub, Nat.reduceMul, Nat.reduceLT, Nat.reduceLeDiff, Nat.reduceEqDiff, Int.reduceToNat, ↓reduceIte]; done) | trace_state
theorem sort1_ac (ts : List Term) (hn : ts.length ≤ 1) (H : List AObj) : ACall Tryz.prog 86 [.sl .none (encTs ts), .fn 87 []] H (fun r H' => r = .tup [] ∧ H' = H) := by
  refine ACall_V (H.length) 12 [] Tryz.func86 rfl rfl rfl ?_
  simp only [push_cast, Nat.reduceAdd, Nat.reduceSub, Nat.reduceMul, Nat.reduceLT, Nat.reduceLeDiff, Nat.reduceEqDiff, Int.reduceToNat, ↓reduceIte]
  refine ⟨by omega, ?_⟩
  refine (len1_ac ts.length hn _).to ?_
  simp only [push_cast, Nat.reduceAdd, Nat.reduceSub, Nat.reduceMul, Nat.reduceLT, Nat.reduceLeDiff, Nat.reduceEqDiff, Int.reduceToNat, ↓reduceIte]
  refine (pdq1_ac ts _ hn _).to ?_
  first | (simp only [push_cast, Nat.reduceAdd, Nat.reduceSub, Nat.reduceMul, Nat.reduceLT, Nat.reduceLeDiff, Nat.reduceEqDiff, Int.reduceToNat, ↓reduceIte]; done) | trace_state
end Ab
set_option maxRecDepth 100000
namespace Ab
open Go Go.Proofs
def exploreE (rs : List (Term × Term)) (t : Term) (most : Int) : GrP × Int := if bothP rs t ≠ 0 then (zeroG, bothP rs t) else if most < 1 ∨ 4096 < most then (zeroG, 2) else exploreF rs t most.toNat
theorem exploreX_ac (rs : List (Term × Term)) (hlen : rs.length < 1099511627776) (hb : BndR rs) (t : Term) (ht : t.bulk ≤ 1099511627775) (most : Int) (H : List AObj) :
    ACall Tryz.prog 37 [.sl .none (encL encRu rs), encT t, .int .i64 most] H (fun r H' => r = encGE (exploreE rs t most) ∧ H' = H) := by
  refine ACall_V (H.length) 26 [.cell 6 69, .tmp 7] Tryz.func37 rfl rfl rfl ?_
  simp only [push_cast, Nat.reduceAdd, Nat.reduceSub, Nat.reduceMul, Nat.reduceLT, Nat.reduceLeDiff, Nat.reduceEqDiff, Int.reduceToNat, ↓reduceIte]
  refine (both_ac rs hlen hb t ht _).to ?_
  simp only [push_cast, Nat.reduceAdd, Nat.reduceSub, Nat.reduceMul, Nat.reduceLT, Nat.reduceLeDiff, Nat.reduceEqDiff, Int.reduceToNat, ↓reduceIte]
  unfold exploreE
  refine cI (fun h => ?_) (fun h => ?_)
  · rw [if_neg (by simpa using h)]
    obtain ⟨h1, h2⟩ := both_ok h
    refine cI (fun h3 => ?_) (fun h3 => ?_)
    · rw [if_pos (.inl h3)]
      simp only [push_cast, Nat.reduceAdd, Nat.reduceSub, Nat.reduceMul, Nat.reduceLT, Nat.reduceLeDiff, Nat.reduceEqDiff, Int.reduceToNat, ↓reduceIte, encGE, zeroG, encTs_nil, encL_nil]
    · refine cI (fun h4 => ?_) (fun h4 => ?_)
      · rw [if_pos (.inr h4)]
        simp only [push_cast, Nat.reduceAdd, Nat.reduceSub, Nat.reduceMul, Nat.reduceLT, Nat.reduceLeDiff, Nat.reduceEqDiff, Int.reduceToNat, ↓reduceIte, encGE, zeroG, encTs_nil, encL_nil]
      · rw [if_neg (by omega)]
        have hmm : most = ((most.toNat : Nat) : Int) := by omega
        obtain ⟨m, hm⟩ : ∃ m, m = most.toNat := ⟨_, rfl⟩
        rw [← hm] at hmm ⊢
        subst hmm
        refine (explore_ac rs h1 t h2 m (by omega) (by omega) _).to ?_
        simp only [push_cast, Nat.reduceAdd, Nat.reduceSub, Nat.reduceMul, Nat.reduceLT, Nat.reduceLeDiff, Nat.reduceEqDiff, Int.reduceToNat, ↓reduceIte, encGE]
  · rw [if_pos h]
    simp only [push_cast, Nat.reduceAdd, Nat.reduceSub, Nat.reduceMul, Nat.reduceLT, Nat.reduceLeDiff, Nat.reduceEqDiff, Int.reduceToNat, ↓reduceIte, encGE, zeroG, encTs_nil, encL_nil]
def normsF (rs : List (Term × Term)) (ts : List Term) : List Term := ts.filter fun x => decide ((allS rs x).length = 0)
theorem normsF_snoc (rs : List (Term × Term)) (ts : List Term) (i : Nat) (h : i < ts.length) : normsF rs (ts.take (i + 1)) = normsF rs (ts.take i) ++ if (allS rs ts[i]).length = 0 then [ts[i]] else [] := by
  unfold normsF
  rw [List.take_succ_eq_append_getElem h, List.filter_append]
  congr 1
  by_cases hq : (allS rs ts[i]).length = 0
  · rw [if_pos hq, List.filter_cons, if_pos (by simpa using hq)]; rfl
  · rw [if_neg hq, List.filter_cons, if_neg (by simpa using hq)]; rfl
set_option maxHeartbeats 2000000 in
theorem normals1_ac (rs : List (Term × Term)) (hlen : rs.length < 1099511627776) (hb : BndR rs) (t : Term) (ht : t.bulk ≤ 1099511627775) (most : Int) (g : GrP) (hg : exploreE rs t most = (g, 0)) (hr : sysP rs = 0) (hck : ∀ x, x ∈ g.ts → checkP x = 0) (hl : g.ts.length < 1099511627776) (h1 : (normsF rs g.ts).length ≤ 1) (H : List AObj) :
    ACall Tryz.prog 39 [.sl .none (encL encRu rs), encT t, .int .i64 most] H (fun r H' => r = .tup [.sl .none (encTs (normsF rs g.ts)), .bool g.wh, .int .i64 0] ∧ H' = H) := by
  have hex := fun X => exploreX_ac rs hlen hb t ht most X
  rw [hg] at hex
  refine ACall_VA (H.length) 43 [.tmp 6, .tmp 7, .tmp 8] Tryz.func39 rfl rfl rfl ?_
  refine AW_reserve 1 ?_
  refine AW_of_W ?_
  simp only [push_cast, Nat.reduceAdd, Nat.reduceSub, Nat.reduceMul, Nat.reduceLT, Nat.reduceLeDiff, Nat.reduceEqDiff, Int.reduceToNat, ↓reduceIte]
  refine (hex _).to ?_
  simp only [push_cast, Nat.reduceAdd, Nat.reduceSub, Nat.reduceMul, Nat.reduceLT, Nat.reduceLeDiff, Nat.reduceEqDiff, Int.reduceToNat, ↓reduceIte, encGE]
  refine AW_loopW (maskG 46 [0, 8, 1, 13, 0, 0]) (fun (i : Nat) => [(27, .int .i64 i), (11, gSl H.length (encTs (normsF rs (g.ts.take i))))]) (fun i => H ++ [gTok 25 3 (encTs (normsF rs (g.ts.take i))), .cells [.str t.name, .bool t.var, .sl .none (encTs t.args)], .cells [.sl .none (encTs g.ts), .sl .none (encL encE g.es), .bool g.wh]]) (fun i => i ≤ g.ts.length) (fun i => g.ts.length - i) 0 (Nat.zero_le _) (by simp only [push_cast, Nat.reduceAdd, Nat.reduceSub, Nat.reduceMul, Nat.reduceLT, Nat.reduceLeDiff, Nat.reduceEqDiff, Int.reduceToNat, ↓reduceIte, List.take_zero, show normsF rs [] = [] from rfl, encTs_nil]) (fun i hi => ?_)
  simp only [push_cast, Nat.reduceAdd, Nat.reduceSub, Nat.reduceMul, Nat.reduceLT, Nat.reduceLeDiff, Nat.reduceEqDiff, Int.reduceToNat, ↓reduceIte]
  refine cI (fun h => ?_) (fun h => ?_)
  · have hil : i < g.ts.length := by omega
    have hst := normsF_snoc rs g.ts i hil
    have hnl : (normsF rs (g.ts.take i)).length ≤ g.ts.length := Nat.le_trans (List.length_filter_le _ _) (by rw [List.length_take]; omega)
    have huc := hck _ (List.getElem_mem hil)
    refine ⟨hil, ?_⟩
    refine (allSteps_ac rs (sys_B hr).1 (g.ts[i]'hil) (by have := check_small huc; omega) _).to ?_
    simp only [push_cast, Nat.reduceAdd, Nat.reduceSub, Nat.reduceMul, Nat.reduceLT, Nat.reduceLeDiff, Nat.reduceEqDiff, Int.reduceToNat, ↓reduceIte]
    refine cI (fun h2 => ?_) (fun h2 => ?_)
    · rw [if_pos (by omega)] at hst
      refine app1_T _ H.length (normsF rs (g.ts.take i)) (g.ts[i]'hil) _ rfl rfl (by exact aget0 _ _ _) sl23 sz25 by25 zr25 rfl (by decide) (by omega) ?_
      rw [← hst]
      simp only [push_cast, Nat.reduceAdd, Nat.reduceSub, Nat.reduceMul, Nat.reduceLT, Nat.reduceLeDiff, Nat.reduceEqDiff, Int.reduceToNat, ↓reduceIte]
      repeat' first | refine ⟨by omega, ?_⟩ | refine cI (fun _ => ?_) (fun _ => ?_)
      exact loopW_n (i + 1) (by omega) (by omega) (by simp only [push_cast, Nat.reduceAdd, Nat.reduceSub, Nat.reduceMul, Nat.reduceLT, Nat.reduceLeDiff, Nat.reduceEqDiff, Int.reduceToNat, ↓reduceIte])
    · rw [if_neg (by omega), List.append_nil] at hst
      rw [← hst]
      repeat' first | refine ⟨by omega, ?_⟩ | refine cI (fun _ => ?_) (fun _ => ?_)
      exact loopW_n (i + 1) (by omega) (by omega) (by simp only [push_cast, Nat.reduceAdd, Nat.reduceSub, Nat.reduceMul, Nat.reduceLT, Nat.reduceLeDiff, Nat.reduceEqDiff, Int.reduceToNat, ↓reduceIte])
  · rw [List.take_of_length_le (show g.ts.length ≤ i by omega)]
    have hso := fun X k => ACall.forget (args' := [.sl .none (encTs (normsF rs g.ts)), .fn 87 []]) (args := [gSl k (encTs (normsF rs g.ts)), .fn 87 []]) ⟨gSl_forget _ _, Forget.refl _, trivial⟩ (sort1_ac (normsF rs g.ts) h1 X)
    refine (hso _ _).to ?_
    simp only [push_cast, Nat.reduceAdd, Nat.reduceSub, Nat.reduceMul, Nat.reduceLT, Nat.reduceLeDiff, Nat.reduceEqDiff, Int.reduceToNat, ↓reduceIte]
    apply AW_drawE [some 43, some 44, some 45, some 6, some 7, some 8] [([], _)] [none, none, none, none, none, none] 0 [(0, [], [11]), (1, [], [9]), (2, [], [44]), (3, [], [43]), (4, [], [45]), (5, [], [])] [_, _, _, _, _, _]
    case' hm => exact dr
    case' hn => rfl
    case' hok => rfl
    case' hlen => rfl
    case' hd => rfl
    case' h0 => rfl
    case' hstep =>
     simp only [DAllG, push_cast, Option.isSome_some, Option.isSome_none]
     repeat' apply And.intro
     all_goals (apply DOne_V; simp only [push_cast, Nat.reduceAdd, Nat.reduceSub, Nat.reduceMul, Nat.reduceLT, Nat.reduceLeDiff, Nat.reduceEqDiff, Int.reduceToNat, ↓reduceIte] <;> first | exact rfl | omega | exact ⟨rfl, rfl⟩ | exact trivial | exact ⟨by omega, rfl⟩ | exact ⟨by omega, by omega, rfl⟩ | exact ⟨by omega, rfl, rfl⟩ | exact ⟨by omega, by omega, rfl, rfl⟩ | skip)
    case' hQ => skip
    simp only [push_cast, Nat.reduceAdd, Nat.reduceSub, Nat.reduceMul, Nat.reduceLT, Nat.reduceLeDiff, Nat.reduceEqDiff, Int.reduceToNat, ↓reduceIte]
end Ab
set_option maxRecDepth 100000
namespace Ab
open Go Go.Proofs
def dxA : Term := .mk [97] false []
def dxB : Term := .mk [98] false []
def dxC : Term := .mk [99] false []
def dxR : List (Term × Term) := [(dxA, dxB), (dxA, dxC), (dxB, dxA)]
theorem dx_ck : checkP dxA = 0 ∧ checkP dxB = 0 ∧ checkP dxC = 0 := by
  have h1 : isNameP [97] true = true ∧ isNameP [98] true = true ∧ isNameP [99] true = true := by decide +kernel
  refine ⟨?_, ?_, ?_⟩ <;> rw [check_iff] <;> simp [dxA, dxB, dxC, formedP_mk, fitsP, Term.size_mk, Term.depth_mk, h1]
theorem dx_rules : rulesP dxR = 0 := by
  obtain ⟨h1, h2, h3⟩ := dx_ck
  simp [rulesP, dxR, rT, firstErr, h1, h2, h3]
theorem dx_nodes : nodesL (rT dxR) = [([97], 0), ([98], 0), ([97], 0), ([99], 0), ([98], 0), ([97], 0)] := by
  simp [dxR, rT, dxA, dxB, dxC, nodesL, ndT, Term.mk_name, Term.mk_var, Term.mk_args]
theorem dx_ar : arB dxR = false ∧ (arE dxR).2.any (fun s => markedP s.1) = false := by
  unfold arB arE
  rw [dx_nodes]
  decide +kernel
theorem dx_extra : dxR.any extraP = false := by
  simp [dxR, extraP, dxA, dxB, dxC, Term.mk_var, varsP, collectP_mk]
theorem dx_sys : sysP dxR = 0 := by
  unfold sysP
  rw [dx_rules, dx_ar.1, dx_ar.2, dx_extra]
  simp
theorem dx_both : bothP dxR dxA = 0 := by
  unfold bothP
  rw [dx_sys, dx_ck.1]
  simp
theorem dx_S : allS dxR dxA = [(0, []), (1, [])] ∧ allS dxR dxB = [(2, [])] ∧ allS dxR dxC = [] := by
  refine ⟨?_, ?_, ?_⟩ <;> simp [allS, allI, walkT, walkL, Term.args, dxR, atV, atF, dxA, dxB, dxC, matchP, matchTs_nil, clash, Term.mk_name, Term.mk_var, Term.mk_args]
theorem dx_do : doE dxR dxA (0, []) = (dxB, 0) ∧ doE dxR dxA (1, []) = (dxC, 0) ∧ doE dxR dxB (2, []) = (dxA, 0) := by
  have f1 : findE dxR dxA (0, []) = ([], 0) ∧ findE dxR dxA (1, []) = ([], 0) ∧ findE dxR dxB (2, []) = ([], 0) := by
    refine ⟨?_, ?_, ?_⟩ <;> simp [findE, dxR, atP, ruleN, dxA, dxB, dxC, matchP, matchTs_nil, clash, Term.mk_name, Term.mk_var, Term.mk_args]
  refine ⟨?_, ?_, ?_⟩
  · rw [do_alt, f1.1]
    have : rhsP dxR dxA (0, []) = dxB := by unfold rhsP; rw [f1.1]; simp [ruleN, dxR, dxB, applyP_mk]
    rw [this]
    simp [dxA, dxB, putP, fitsP, Term.size_mk, Term.depth_mk]
  · rw [do_alt, f1.2.1]
    have : rhsP dxR dxA (1, []) = dxC := by unfold rhsP; rw [f1.2.1]; simp [ruleN, dxR, dxC, applyP_mk]
    rw [this]
    simp [dxA, dxC, putP, fitsP, Term.size_mk, Term.depth_mk]
  · rw [do_alt, f1.2.2]
    have : rhsP dxR dxB (2, []) = dxA := by unfold rhsP; rw [f1.2.2]; simp [ruleN, dxR, dxA, applyP_mk]
    rw [this]
    simp [dxA, dxB, putP, fitsP, Term.size_mk, Term.depth_mk]
def dxG : GrP := ⟨[dxA, dxB, dxC], [⟨0, 1, (0, [])⟩, ⟨0, 2, (1, [])⟩, ⟨1, 0, (2, [])⟩], true⟩
theorem dx_ne : ¬ dxB = dxA ∧ ¬ dxC = dxA ∧ ¬ dxC = dxB ∧ ¬ dxA = dxB := by
  refine ⟨fun e => ?_, fun e => ?_, fun e => ?_, fun e => ?_⟩ <;> (have h := congrArg Term.name e; simp [dxA, dxB, dxC, Term.mk_name] at h)
theorem dx_ex : exploreF dxR dxA 10 = (dxG, 0) := by
  obtain ⟨s1, s2, s3⟩ := dx_S
  obtain ⟨d1, d2, d3⟩ := dx_do
  obtain ⟨n1, n2, n3, n4⟩ := dx_ne
  simp [exploreF, expF, s1, s2, s3, exRow, d1, d2, d3, exStep, addTs, addR, addW, n1, n2, n3, n4, dxG, List.idxOf_cons]
theorem dx_exE : exploreE dxR dxA 10 = (dxG, 0) := by
  unfold exploreE
  rw [dx_both]
  simpa using dx_ex
theorem dx_norm : normsF dxR dxG.ts = [dxC] := by
  obtain ⟨s1, s2, s3⟩ := dx_S
  simp [normsF, dxG, s1, s2, s3]
theorem dx_B : BndR dxR ∧ dxR.length = 3 ∧ dxA.bulk = 2 := by
  refine ⟨fun r hr => ?_, rfl, ?_⟩
  · simp only [dxR, List.mem_cons, List.not_mem_nil, or_false] at hr
    rcases hr with rfl | rfl | rfl <;> simp [dxA, dxB, dxC, Term.bulk_mk]
  · simp [dxA, Term.bulk_mk]
end Ab
set_option maxRecDepth 100000
namespace Ab
open Go Go.Proofs
@[reducible] def lgL (H : List AObj) (l0 l1 l2 : Int) : List AObj :=
  [.tok 3 1 2, .tok 3 1 1, .dead, .cells [.str dxA.name, .bool dxA.var, .sl .none (encTs dxA.args)], .cells [.sl .none (encTs dxG.ts), .sl .none (encL encE dxG.es), .bool true],
   .cells [.sl (.own H.length) [.int .i64 1, .int .i64 2], .sl (.own (H.length + 1)) [.int .i64 0], .sl .zero []], .cells [.arr (H.length + 5) 0 3],
   .cells [.int .i64 l0, .int .i64 l1, .int .i64 l2], .cells [.arr (H.length + 7) 0 3], .cells [.fn 84 [.ptr (H.length + 8) 0, .ptr (H.length + 6) 0, .ptr (H.length + 9) 0]]]
theorem osc_lgL (n : Nat) (H : List AObj) (l0 l1 l2 : Int) (hn : H.length + 10 ≤ n) : ∀ o, o ∈ lgL H l0 l1 l2 → OScoped n o := by
  intro o ho
  simp only [List.mem_cons, List.not_mem_nil, or_false] at ho
  rcases ho with rfl | rfl | rfl | rfl | rfl | rfl | rfl | rfl | rfl | rfl
  · exact trivial
  · exact trivial
  · exact trivial
  · exact ⟨trivial, trivial, scoped_encTs _ dxA.args, trivial⟩
  · exact ⟨scoped_encTs _ dxG.ts, of_eq_true (scopedE _ dxG.es), trivial, trivial⟩
  · simp [OScoped, ScopedL, Scoped]; omega
  · simp [OScoped, ScopedL, Scoped]; omega
  · simp [OScoped, ScopedL, Scoped]
  · simp [OScoped, ScopedL, Scoped]; omega
  · simp [OScoped, ScopedL, Scoped]; omega
theorem ok_lg (H : List AObj) (a0 a1 a2 b0 b1 b2 : Int) : OutOk (H ++ lgL H a0 a1 a2) (H ++ lgL H b0 b1 b2) (H.length + 10) := by
  have h := outok_ex (H := H) (L := lgL H a0 a1 a2) (L' := lgL H b0 b1 b2) (Y := []) (m := H.length + 10) rfl rfl (fun i o h => .inr (osc_lgL _ H b0 b1 b2 (Nat.le_refl _) o (List.mem_of_getElem? h)))
  simpa using h
theorem visit0_ac (H : List AObj) : ACall Tryz.prog 84 [.int .i64 0, .ptr (H.length + 8) 0, .ptr (H.length + 6) 0, .ptr (H.length + 9) 0] (H ++ lgL H (-1) (-1) 0) (fun r H' => r = .bool false ∧ H' = H ++ lgL H (-1) (-1) 0) := by
  refine ACall_V (H.length + 10) 43 [.tmp 5] Tryz.func84 rfl rfl rfl ?_
  simp only [push_cast, Nat.reduceAdd, Nat.reduceSub, Nat.reduceMul, Nat.reduceLT, Nat.reduceLeDiff, Nat.reduceEqDiff, Int.reduceToNat, ↓reduceIte]
  refine ⟨by decide, cI (fun h => absurd h (by decide)) (fun _ => ?_)⟩
  exact ⟨by decide, ok_lg H _ _ _ _ _ _, by decide⟩
theorem visit1_ac (H : List AObj) : ACall Tryz.prog 84 [.int .i64 1, .ptr (H.length + 8) 0, .ptr (H.length + 6) 0, .ptr (H.length + 9) 0] (H ++ lgL H (-1) 0 0) (fun r H' => r = .bool false ∧ H' = H ++ lgL H (-1) (-1) 0) := by
  refine ACall_V (H.length + 10) 43 [.tmp 5] Tryz.func84 rfl rfl rfl ?_
  simp only [push_cast, Nat.reduceAdd, Nat.reduceSub, Nat.reduceMul, Nat.reduceLT, Nat.reduceLeDiff, Nat.reduceEqDiff, Int.reduceToNat, ↓reduceIte]
  refine ⟨by decide, by decide, by decide, ?_⟩
  refine AW_loopW (maskG 47 [0, 0, 1, 2, 18, 0, 0]) (fun (_ : Unit) => [(27, .int .i64 0), (6, .int .i64 0)]) (fun _ => H ++ lgL H (-1) (-1) 0) (fun _ => True) (fun _ => 0) () trivial (by simp only [push_cast, Nat.reduceAdd, Nat.reduceSub, Nat.reduceMul, Nat.reduceLT, Nat.reduceLeDiff, Nat.reduceEqDiff, Int.reduceToNat, ↓reduceIte]; exact ok_lg H _ _ _ _ _ _) (fun _ _ => ?_)
  simp only [push_cast, Nat.reduceAdd, Nat.reduceSub, Nat.reduceMul, Nat.reduceLT, Nat.reduceLeDiff, Nat.reduceEqDiff, Int.reduceToNat, ↓reduceIte]
  refine cI (fun _ => ?_) (fun h => absurd h (by decide))
  refine ⟨by simp [Uni, AV.cells], by decide, by decide, ?_⟩
  refine (visit0_ac H).to ?_
  simp only [push_cast, Nat.reduceAdd, Nat.reduceSub, Nat.reduceMul, Nat.reduceLT, Nat.reduceLeDiff, Nat.reduceEqDiff, Int.reduceToNat, ↓reduceIte]
  exact ok_lg H _ _ _ _ _ _
theorem visit2_ac (H : List AObj) : ACall Tryz.prog 84 [.int .i64 0, .ptr (H.length + 8) 0, .ptr (H.length + 6) 0, .ptr (H.length + 9) 0] (H ++ lgL H 0 0 0) (fun r H' => r = .bool false ∧ H' = H ++ lgL H (-1) (-1) 0) := by
  refine ACall_V (H.length + 10) 43 [.tmp 5] Tryz.func84 rfl rfl rfl ?_
  simp only [push_cast, Nat.reduceAdd, Nat.reduceSub, Nat.reduceMul, Nat.reduceLT, Nat.reduceLeDiff, Nat.reduceEqDiff, Int.reduceToNat, ↓reduceIte]
  refine ⟨by decide, by decide, by decide, ?_⟩
  refine AW_loopW (maskG 47 [0, 0, 1, 2, 18, 0, 0]) (fun (_ : Unit) => [(27, .int .i64 0), (6, .int .i64 0)]) (fun _ => H ++ lgL H (-1) 0 0) (fun _ => True) (fun _ => 0) () trivial (by simp only [push_cast, Nat.reduceAdd, Nat.reduceSub, Nat.reduceMul, Nat.reduceLT, Nat.reduceLeDiff, Nat.reduceEqDiff, Int.reduceToNat, ↓reduceIte]; exact ok_lg H _ _ _ _ _ _) (fun _ _ => ?_)
  simp only [push_cast, Nat.reduceAdd, Nat.reduceSub, Nat.reduceMul, Nat.reduceLT, Nat.reduceLeDiff, Nat.reduceEqDiff, Int.reduceToNat, ↓reduceIte]
  refine cI (fun _ => ?_) (fun h => absurd h (by decide))
  refine ⟨by simp [Uni, AV.cells], by decide, by decide, ?_⟩
  refine (visit1_ac H).to ?_
  simp only [push_cast, Nat.reduceAdd, Nat.reduceSub, Nat.reduceMul, Nat.reduceLT, Nat.reduceLeDiff, Nat.reduceEqDiff, Int.reduceToNat, ↓reduceIte]
  exact ok_lg H _ _ _ _ _ _
theorem dx_get : (∀ h, dxG.es[0]'h = ⟨0, 1, (0, [])⟩) ∧ (∀ h, dxG.es[1]'h = ⟨0, 2, (1, [])⟩) ∧ (∀ h, dxG.es[2]'h = ⟨1, 0, (2, [])⟩) := ⟨fun _ => rfl, fun _ => rfl, fun _ => rfl⟩
def nxF (i : Nat) (k : Int) : List Int := ((dxG.es.take i).filter fun e => decide (e.fr = k)).map (·.to)
theorem nx_0 : nxF 0 0 = [] ∧ nxF 0 1 = [] ∧ nxF 1 0 = [1] ∧ nxF 1 1 = [] ∧ nxF 2 0 = [1, 2] ∧ nxF 2 1 = [] ∧ nxF 3 0 = [1, 2] ∧ nxF 3 1 = [0] := by decide
set_option maxHeartbeats 2000000 in
theorem longestX_ac (H : List AObj) : ACall Tryz.prog 38 [.sl .none (encL encRu dxR), encT dxA, .int .i64 10] H (fun r H' => r = .tup [.int .i64 0, .bool false, .int .i64 0] ∧ H' = H) := by
  have hex := fun X => exploreX_ac dxR (by rw [dx_B.2.1]; decide) dx_B.1 dxA (by rw [dx_B.2.2]; decide) 10 X
  rw [dx_exE] at hex
  have hts : dxG.ts.length = 3 := rfl
  have hes : dxG.es.length = 3 := rfl
  have hwh : dxG.wh = true := rfl
  obtain ⟨g0, g1, g2⟩ := dx_get
  refine ACall_VA (H.length) 65 [.tmp 6, .tmp 7, .tmp 8] Tryz.func38 rfl rfl rfl ?_
  refine AW_reserve 3 ?_
  refine AW_of_W ?_
  simp only [push_cast, Nat.reduceAdd, Nat.reduceSub, Nat.reduceMul, Nat.reduceLT, Nat.reduceLeDiff, Nat.reduceEqDiff, Int.reduceToNat, ↓reduceIte]
  refine (hex _).to ?_
  simp only [push_cast, Nat.reduceAdd, Nat.reduceSub, Nat.reduceMul, Nat.reduceLT, Nat.reduceLeDiff, Nat.reduceEqDiff, Int.reduceToNat, ↓reduceIte, encGE, hts, hes, hwh]
  refine AOp_make1 3 _ _ _ rfl rfl sl121 sz48 by48 zr48 rfl (by decide) (by decide) ?_
  simp only [push_cast, Nat.reduceAdd, Nat.reduceSub, Nat.reduceMul, Nat.reduceLT, Nat.reduceLeDiff, Nat.reduceEqDiff, Int.reduceToNat, ↓reduceIte]
  have hencP : ∀ l : List Int, encL (fun i : Int => AV.int .i64 i) l = encP l := fun _ => rfl
  refine AW_loopW (maskG 68 [9, 1, 24, 0, 0]) (fun (i : Nat) => [(38, .int .i64 i)]) (fun i => H ++ [gTok 3 1 (encP (nxF i 0)), gTok 3 1 (encP (nxF i 1)), .dead, .cells [.str dxA.name, .bool dxA.var, .sl .none (encTs dxA.args)], .cells [.sl .none (encTs dxG.ts), .sl .none (encL encE dxG.es), .bool true], .cells [gSl H.length (encP (nxF i 0)), gSl (H.length + 1) (encP (nxF i 1)), .sl .zero []], .cells [.arr (H.length + 5) 0 3]]) (fun i => i ≤ 3) (fun i => 3 - i) 0 (Nat.zero_le _) (by simp only [push_cast, Nat.reduceAdd, Nat.reduceSub, Nat.reduceMul, Nat.reduceLT, Nat.reduceLeDiff, Nat.reduceEqDiff, Int.reduceToNat, ↓reduceIte, nx_0.1, nx_0.2.1]; first | done | rfl) (fun i hi => ?_)
  obtain ⟨a1, a2, a3, a4, a5, a6, a7, a8⟩ := nx_0
  simp only [push_cast, Nat.reduceAdd, Nat.reduceSub, Nat.reduceMul, Nat.reduceLT, Nat.reduceLeDiff, Nat.reduceEqDiff, Int.reduceToNat, ↓reduceIte, hes]
  refine cI (fun h => ?_) (fun h => ?_)
  · match i, hi, h with
    | 0, _, _ =>
      refine ⟨by decide, ?_⟩
      simp only [push_cast, Nat.reduceAdd, Nat.reduceSub, Nat.reduceMul, Nat.reduceLT, Nat.reduceLeDiff, Nat.reduceEqDiff, Int.reduceToNat, ↓reduceIte, g0]
      apply AW_drawE [some 42, some 43, some 44, some 45, some 46, some 47, some 48, some 49, some 50, some 51, some 52, some 53, some 54, none] [([false, false], _), ([true, false], _), ([true, true], _)] [none, none, none, none, none, none, none, none, none, none, none, some 0, none, some 1] 2 [(0, [false, false], [11]), (1, [false, false], [13]), (2, [false, false], [43]), (3, [false, false], [11]), (4, [false, false], [13]), (5, [false, false], [46]), (6, [false, false], [45, 1]), (7, [false, false], [48]), (8, [false, false], [13]), (9, [false, false], [50]), (10, [false, false], [51]), (11, [false, false], [49, 2]), (12, [true, false], [42, 1]), (13, [true, false], [53, 0]), (0, [true, false], [11]), (1, [true, false], [13]), (2, [true, false], [43]), (3, [true, false], [11]), (4, [true, false], [13]), (5, [true, false], [46]), (6, [true, false], [45, 1]), (8, [true, false], [13]), (9, [true, false], [50])] [_, _, _, _, _, _, _, _, _, _, _, _, _, _]
      case' hm => exact dr
      case' hn => rfl
      case' hok => rfl
      case' hlen => rfl
      case' hd => rfl
      case' h0 => rfl
      case' hstep =>
       simp only [DAllG, push_cast, Option.isSome_some, Option.isSome_none]
       repeat' apply And.intro
       all_goals (apply DOne_V; simp only [push_cast, Nat.reduceAdd, Nat.reduceSub, Nat.reduceMul, Nat.reduceLT, Nat.reduceLeDiff, Nat.reduceEqDiff, Int.reduceToNat, ↓reduceIte] <;> first | exact rfl | omega | exact ⟨rfl, rfl⟩ | exact trivial | exact ⟨by omega, rfl⟩ | exact ⟨by omega, by omega, rfl⟩ | exact ⟨by omega, rfl, rfl⟩ | exact ⟨by omega, by omega, rfl, rfl⟩ | (refine app1_L (fun i : Int => AV.int .i64 i) (sz := 1) (fun _ => rfl) (by intro x c hc; simp [AV.cells] at hc; subst hc; rfl) _ H.length (nxF 0 0) 1 _ rfl rfl (by exact aget0 _ _ _) sl48 sz3 by3 zr3 rfl (by decide) (by decide) (by decide) ?_; exact ⟨rfl, rfl⟩) | exact ⟨by decide, by decide, rfl⟩)
      case' hQ => skip
      have e : nxF 0 0 ++ [1] = nxF 1 0 := by decide
      rw [e, hencP]
      simp only [push_cast, Nat.reduceAdd, Nat.reduceSub, Nat.reduceMul, Nat.reduceLT, Nat.reduceLeDiff, Nat.reduceEqDiff, Int.reduceToNat, ↓reduceIte]
      repeat' first | refine ⟨by omega, ?_⟩ | refine cI (fun _ => ?_) (fun _ => ?_)
      refine loopW_n 1 (by omega) (by omega) ?_
      rw [show nxF 1 1 = nxF 0 1 by decide]
      simp only [push_cast, Nat.reduceAdd, Nat.reduceSub, Nat.reduceMul, Nat.reduceLT, Nat.reduceLeDiff, Nat.reduceEqDiff, Int.reduceToNat, ↓reduceIte]
    | 1, _, _ =>
      refine ⟨by decide, ?_⟩
      simp only [push_cast, Nat.reduceAdd, Nat.reduceSub, Nat.reduceMul, Nat.reduceLT, Nat.reduceLeDiff, Nat.reduceEqDiff, Int.reduceToNat, ↓reduceIte, g1]
      apply AW_drawE [some 42, some 43, some 44, some 45, some 46, some 47, some 48, some 49, some 50, some 51, some 52, some 53, some 54, none] [([false, false], _), ([true, false], _), ([true, true], _)] [none, none, none, none, none, none, none, none, none, none, none, some 0, none, some 1] 2 [(0, [false, false], [11]), (1, [false, false], [13]), (2, [false, false], [43]), (3, [false, false], [11]), (4, [false, false], [13]), (5, [false, false], [46]), (6, [false, false], [45, 1]), (7, [false, false], [48]), (8, [false, false], [13]), (9, [false, false], [50]), (10, [false, false], [51]), (11, [false, false], [49, 2]), (12, [true, false], [42, 1]), (13, [true, false], [53, 0]), (0, [true, false], [11]), (1, [true, false], [13]), (2, [true, false], [43]), (3, [true, false], [11]), (4, [true, false], [13]), (5, [true, false], [46]), (6, [true, false], [45, 1]), (8, [true, false], [13]), (9, [true, false], [50])] [_, _, _, _, _, _, _, _, _, _, _, _, _, _]
      case' hm => exact dr
      case' hn => rfl
      case' hok => rfl
      case' hlen => rfl
      case' hd => rfl
      case' h0 => rfl
      case' hstep =>
       simp only [DAllG, push_cast, Option.isSome_some, Option.isSome_none]
       repeat' apply And.intro
       all_goals (apply DOne_V; simp only [push_cast, Nat.reduceAdd, Nat.reduceSub, Nat.reduceMul, Nat.reduceLT, Nat.reduceLeDiff, Nat.reduceEqDiff, Int.reduceToNat, ↓reduceIte] <;> first | exact rfl | omega | exact ⟨rfl, rfl⟩ | exact trivial | exact ⟨by omega, rfl⟩ | exact ⟨by omega, by omega, rfl⟩ | exact ⟨by omega, rfl, rfl⟩ | exact ⟨by omega, by omega, rfl, rfl⟩ | (refine app1_L (fun i : Int => AV.int .i64 i) (sz := 1) (fun _ => rfl) (by intro x c hc; simp [AV.cells] at hc; subst hc; rfl) _ H.length (nxF 1 0) 2 _ rfl rfl (by exact aget0 _ _ _) sl48 sz3 by3 zr3 rfl (by decide) (by decide) (by decide) ?_; exact ⟨rfl, rfl⟩) | exact ⟨by decide, by decide, rfl⟩)
      case' hQ => skip
      have e : nxF 1 0 ++ [2] = nxF 2 0 := by decide
      rw [e, hencP]
      simp only [push_cast, Nat.reduceAdd, Nat.reduceSub, Nat.reduceMul, Nat.reduceLT, Nat.reduceLeDiff, Nat.reduceEqDiff, Int.reduceToNat, ↓reduceIte]
      repeat' first | refine ⟨by omega, ?_⟩ | refine cI (fun _ => ?_) (fun _ => ?_)
      refine loopW_n 2 (by omega) (by omega) ?_
      rw [show nxF 2 1 = nxF 1 1 by decide]
      simp only [push_cast, Nat.reduceAdd, Nat.reduceSub, Nat.reduceMul, Nat.reduceLT, Nat.reduceLeDiff, Nat.reduceEqDiff, Int.reduceToNat, ↓reduceIte]
    | 2, _, _ =>
      refine ⟨by decide, ?_⟩
      simp only [push_cast, Nat.reduceAdd, Nat.reduceSub, Nat.reduceMul, Nat.reduceLT, Nat.reduceLeDiff, Nat.reduceEqDiff, Int.reduceToNat, ↓reduceIte, g2]
      apply AW_drawE [some 42, some 43, some 44, some 45, some 46, some 47, some 48, some 49, some 50, some 51, some 52, some 53, some 54, none] [([false, false], _), ([true, false], _), ([true, true], _)] [none, none, none, none, none, none, none, none, none, none, none, some 0, none, some 1] 2 [(0, [false, false], [11]), (1, [false, false], [13]), (2, [false, false], [43]), (3, [false, false], [11]), (4, [false, false], [13]), (5, [false, false], [46]), (6, [false, false], [45, 1]), (7, [false, false], [48]), (8, [false, false], [13]), (9, [false, false], [50]), (10, [false, false], [51]), (11, [false, false], [49, 2]), (12, [true, false], [42, 1]), (13, [true, false], [53, 0]), (0, [true, false], [11]), (1, [true, false], [13]), (2, [true, false], [43]), (3, [true, false], [11]), (4, [true, false], [13]), (5, [true, false], [46]), (6, [true, false], [45, 1]), (8, [true, false], [13]), (9, [true, false], [50])] [_, _, _, _, _, _, _, _, _, _, _, _, _, _]
      case' hm => exact dr
      case' hn => rfl
      case' hok => rfl
      case' hlen => rfl
      case' hd => rfl
      case' h0 => rfl
      case' hstep =>
       simp only [DAllG, push_cast, Option.isSome_some, Option.isSome_none]
       repeat' apply And.intro
       all_goals (apply DOne_V; simp only [push_cast, Nat.reduceAdd, Nat.reduceSub, Nat.reduceMul, Nat.reduceLT, Nat.reduceLeDiff, Nat.reduceEqDiff, Int.reduceToNat, ↓reduceIte] <;> first | exact rfl | omega | exact ⟨rfl, rfl⟩ | exact trivial | exact ⟨by omega, rfl⟩ | exact ⟨by omega, by omega, rfl⟩ | exact ⟨by omega, rfl, rfl⟩ | exact ⟨by omega, by omega, rfl, rfl⟩ | (refine app1_L (fun i : Int => AV.int .i64 i) (sz := 1) (fun _ => rfl) (by intro x c hc; simp [AV.cells] at hc; subst hc; rfl) _ (H.length + 1) (nxF 2 1) 0 _ rfl rfl (by exact (agetN _ _ 1).trans rfl) sl48 sz3 by3 zr3 rfl (by decide) (by decide) (by decide) ?_; exact ⟨rfl, rfl⟩) | exact ⟨by decide, by decide, rfl⟩)
      case' hQ => skip
      have e : nxF 2 1 ++ [0] = nxF 3 1 := by decide
      rw [e, hencP]
      simp only [push_cast, Nat.reduceAdd, Nat.reduceSub, Nat.reduceMul, Nat.reduceLT, Nat.reduceLeDiff, Nat.reduceEqDiff, Int.reduceToNat, ↓reduceIte]
      repeat' first | refine ⟨by omega, ?_⟩ | refine cI (fun _ => ?_) (fun _ => ?_)
      refine loopW_n 3 (by omega) (by omega) ?_
      rw [show nxF 3 0 = nxF 2 0 by decide]
      simp only [push_cast, Nat.reduceAdd, Nat.reduceSub, Nat.reduceMul, Nat.reduceLT, Nat.reduceLeDiff, Nat.reduceEqDiff, Int.reduceToNat, ↓reduceIte]
  · have h3 : i = 3 := by omega
    subst h3
    simp only [push_cast, Nat.reduceAdd, Nat.reduceSub, Nat.reduceMul, Nat.reduceLT, Nat.reduceLeDiff, Nat.reduceEqDiff, Int.reduceToNat, ↓reduceIte, a7, a8]
    refine AOp_make1 3 _ _ _ rfl rfl sl48 sz3 by3 zr3 rfl (by decide) (by decide) ?_
    simp only [push_cast, Nat.reduceAdd, Nat.reduceSub, Nat.reduceMul, Nat.reduceLT, Nat.reduceLeDiff, Nat.reduceEqDiff, Int.reduceToNat, ↓reduceIte]
    refine (visit2_ac H).to ?_
    first | (simp only [push_cast, Nat.reduceAdd, Nat.reduceSub, Nat.reduceMul, Nat.reduceLT, Nat.reduceLeDiff, Nat.reduceEqDiff, Int.reduceToNat, ↓reduceIte]; done) | (simp only [push_cast, Nat.reduceAdd, Nat.reduceSub, Nat.reduceMul, Nat.reduceLT, Nat.reduceLeDiff, Nat.reduceEqDiff, Int.reduceToNat, ↓reduceIte]; trace_state)
end Ab
set_option maxRecDepth 100000
namespace Ab
open Go Go.Proofs
theorem sameTerms_ac (a b : List Term) (h1 : a.length < 1099511627776) (h2 : b.length < 1099511627776) (h3 : ∀ x, x ∈ a → x.bulk ≤ 1099511627775) (h4 : ∀ x, x ∈ b → x.bulk ≤ 1099511627775) (H : List AObj) :
    ACall Tryz.prog 16 [.sl .none (encTs a), .sl .none (encTs b)] H (fun r H' => r = .bool (decide (a = b)) ∧ H' = H) := by
  refine ACall_V (H.length) 25 [.tmp 4] Tryz.func16 rfl rfl rfl ?_
  simp only [push_cast, Nat.reduceAdd, Nat.reduceSub, Nat.reduceMul, Nat.reduceLT, Nat.reduceLeDiff, Nat.reduceEqDiff, Int.reduceToNat, ↓reduceIte]
  refine cI (fun hl => ?_) (fun hl => ?_)
  · have hl : a.length = b.length := by omega
    refine AW_loopW (maskG 27 [0, 0, 10, 0]) (fun (i : Nat) => [(13, .int .i64 i)]) (fun _ => H) (fun i => i ≤ a.length ∧ a.take i = b.take i) (fun i => a.length - i) 0 ⟨Nat.zero_le _, rfl⟩ (by simp only [push_cast, Nat.reduceAdd, Nat.reduceSub, Nat.reduceMul, Nat.reduceLT, Nat.reduceLeDiff, Nat.reduceEqDiff, Int.reduceToNat, ↓reduceIte]) (fun i hi => ?_)
    simp only [push_cast, Nat.reduceAdd, Nat.reduceSub, Nat.reduceMul, Nat.reduceLT, Nat.reduceLeDiff, Nat.reduceEqDiff, Int.reduceToNat, ↓reduceIte]
    refine cI (fun h => ?_) (fun h => ?_)
    · repeat refine ⟨by omega, ?_⟩
      have hia : i < a.length := by omega
      have hib : i < b.length := by omega
      have heq := fun X => equalR_ac (a[i]'hia) (b[i]'hib) (h3 _ (List.getElem_mem hia)) (h4 _ (List.getElem_mem hib)) X
      apply AW_drawE [some 16, some 17, some 18, some 19, some 20, some 21, some 22, some 23, some 24, some 25] [([], _)] [none, none, none, none, none, none, none, none, none, none] 0 [(0, [], [0]), (1, [], [5]), (2, [], [16, 0]), (3, [], [18]), (4, [], [1]), (5, [], [5]), (6, [], [20, 0]), (7, [], [22]), (8, [], [19, 3]), (9, [], [24])] [_, _, _, _, _, _, _, _, _, _]
      case' hm => exact dr
      case' hn => rfl
      case' hok => rfl
      case' hlen => rfl
      case' hd => rfl
      case' h0 => rfl
      case' hstep =>
       simp only [DAllG, push_cast, Option.isSome_some, Option.isSome_none]
       repeat' apply And.intro
       all_goals (apply DOne_V; simp only [push_cast, Nat.reduceAdd, Nat.reduceSub, Nat.reduceMul, Nat.reduceLT, Nat.reduceLeDiff, Nat.reduceEqDiff, Int.reduceToNat, ↓reduceIte] <;> first | exact rfl | omega | exact ⟨rfl, rfl⟩ | exact trivial | exact ⟨by omega, rfl⟩ | exact ⟨by omega, by omega, rfl⟩ | exact ⟨by omega, rfl, rfl⟩ | exact ⟨by omega, by omega, rfl, rfl⟩ | exact ⟨by omega, trivial⟩ | (refine (heq _).to ?_; exact ⟨rfl, rfl⟩))
      case' hQ => skip
      simp only [push_cast, Nat.reduceAdd, Nat.reduceSub, Nat.reduceMul, Nat.reduceLT, Nat.reduceLeDiff, Nat.reduceEqDiff, Int.reduceToNat, ↓reduceIte]
      refine cI (fun he => ?_) (fun he => ?_)
      · repeat' first | refine ⟨by omega, ?_⟩ | refine cI (fun _ => ?_) (fun _ => ?_)
        refine loopW_n (i + 1) ⟨by omega, ?_⟩ (by omega) (by simp only [push_cast, Nat.reduceAdd, Nat.reduceSub, Nat.reduceMul, Nat.reduceLT, Nat.reduceLeDiff, Nat.reduceEqDiff, Int.reduceToNat, ↓reduceIte])
        rw [List.take_succ_eq_append_getElem hia, List.take_succ_eq_append_getElem hib, hi.2, he]
      · have hne : a ≠ b := fun e => he (by subst e; rfl)
        simp [hne]
    · have e := hi.2
      rw [List.take_of_length_le (by omega), List.take_of_length_le (by omega)] at e
      simp [e]
  · have hne : a ≠ b := fun e => hl (by rw [e])
    simp [hne]
theorem constant_ac (s : List UInt8) (H : List AObj) : ACall Tryz.prog 50 [.str s] H (fun r H' => r = encT (.mk s false []) ∧ H' = H) := by
  refine ACall_V (H.length) 4 [.cell 2 25] Tryz.func50 rfl rfl rfl ?_
  simp only [push_cast, Nat.reduceAdd, Nat.reduceSub, Nat.reduceMul, Nat.reduceLT, Nat.reduceLeDiff, Nat.reduceEqDiff, Int.reduceToNat, ↓reduceIte]
theorem enc_c (s : List UInt8) : encT (.mk s false []) = .agg [.str s, .bool false, .sl .none []] := by
  have h : encTs (Term.mk s false []).args = [] := encTs_nil
  simp only [encT, h]; rfl
theorem enc_dxR : encL encRu dxR = [AV.agg [.str [97], .bool false, .sl .none [], .str [98], .bool false, .sl .none []], .agg [.str [97], .bool false, .sl .none [], .str [99], .bool false, .sl .none []], .agg [.str [98], .bool false, .sl .none [], .str [97], .bool false, .sl .none []]] := by
  have h : ∀ s, encTs (Term.mk s false []).args = [] := fun s => encTs_nil
  simp only [encL, dxR, List.map_cons, List.map_nil, encRu, dxA, dxB, dxC, h, Term.mk_name, Term.mk_var]
set_option maxHeartbeats 4000000 in
theorem alive5_ac (H : List AObj) : ACall Tryz.prog 14 [] H (fun r H' => r = .bool true ∧ H' = H) := by
  have hA : encT dxA = .agg [.str [97], .bool false, .sl .none []] := enc_c [97]
  have hx := fun X => exploreX_ac dxR (by rw [dx_B.2.1]; decide) dx_B.1 dxA (by rw [dx_B.2.2]; decide) 10 X
  rw [dx_exE, enc_dxR, hA] at hx
  have hck : ∀ x, x ∈ dxG.ts → checkP x = 0 := by
    intro x hx
    simp only [dxG, List.mem_cons, List.not_mem_nil, or_false] at hx
    rcases hx with rfl | rfl | rfl
    · exact dx_ck.1
    · exact dx_ck.2.1
    · exact dx_ck.2.2
  have hn := fun X => normals1_ac dxR (by rw [dx_B.2.1]; decide) dx_B.1 dxA (by rw [dx_B.2.2]; decide) 10 dxG dx_exE dx_sys hck (by decide) (by rw [dx_norm]; decide) X
  rw [dx_norm, enc_dxR, hA] at hn
  have hlg := fun X => longestX_ac X
  rw [enc_dxR, hA] at hlg
  have hbk : ∀ x, x ∈ dxG.ts → x.bulk ≤ 1099511627775 := fun x hx => by have := check_small (hck x hx); omega
  have hs3 := fun X => sameTerms_ac dxG.ts [dxA, dxB, dxC] (by decide) (by decide) hbk hbk X
  rw [show decide (dxG.ts = [dxA, dxB, dxC]) = true from decide_eq_true rfl, show encTs [dxA, dxB, dxC] = [AV.agg [.str [97], .bool false, .sl .none []], .agg [.str [98], .bool false, .sl .none []], .agg [.str [99], .bool false, .sl .none []]] by rw [encTs_cons, encTs_cons, encTs_one]; exact congr (congrArg _ (enc_c [97])) (congr (congrArg _ (enc_c [98])) (congrArg (fun x => [x]) (enc_c [99])))] at hs3
  have hs1 : ∀ X, ACall Tryz.prog 16 [.sl .none [encT dxC], .sl .none [.agg [.str [99], .bool false, .sl .none []]]] X (fun r H' => r = .bool true ∧ H' = X) := fun X => by
    have hc : ∀ x, x ∈ [dxC] → x.bulk ≤ 1099511627775 := fun x hx => hbk x (by simp at hx; rw [hx]; simp [dxG])
    have h := sameTerms_ac [dxC] [dxC] (by decide) (by decide) hc hc X
    rw [encTs_one, show decide ([dxC] = [dxC]) = true from decide_eq_true rfl] at h
    rw [← enc_c [99]]
    exact h
  have hes : dxG.es.length = 3 := rfl
  have hwh : dxG.wh = true := rfl
  refine ACall_V (H.length) 82 [.tmp 0] Tryz.func14 rfl rfl rfl ?_
  simp only [push_cast, Nat.reduceAdd, Nat.reduceSub, Nat.reduceMul, Nat.reduceLT, Nat.reduceLeDiff, Nat.reduceEqDiff, Int.reduceToNat, ↓reduceIte]
  refine (constant_ac _ _).to ?_
  rw [enc_c]
  simp only [push_cast, Nat.reduceAdd, Nat.reduceSub, Nat.reduceMul, Nat.reduceLT, Nat.reduceLeDiff, Nat.reduceEqDiff, Int.reduceToNat, ↓reduceIte]
  refine (constant_ac _ _).to ?_
  rw [enc_c]
  simp only [push_cast, Nat.reduceAdd, Nat.reduceSub, Nat.reduceMul, Nat.reduceLT, Nat.reduceLeDiff, Nat.reduceEqDiff, Int.reduceToNat, ↓reduceIte]
  refine (constant_ac _ _).to ?_
  rw [enc_c]
  simp only [push_cast, Nat.reduceAdd, Nat.reduceSub, Nat.reduceMul, Nat.reduceLT, Nat.reduceLeDiff, Nat.reduceEqDiff, Int.reduceToNat, ↓reduceIte]
  refine (constant_ac _ _).to ?_
  rw [enc_c]
  simp only [push_cast, Nat.reduceAdd, Nat.reduceSub, Nat.reduceMul, Nat.reduceLT, Nat.reduceLeDiff, Nat.reduceEqDiff, Int.reduceToNat, ↓reduceIte]
  refine (constant_ac _ _).to ?_
  rw [enc_c]
  simp only [push_cast, Nat.reduceAdd, Nat.reduceSub, Nat.reduceMul, Nat.reduceLT, Nat.reduceLeDiff, Nat.reduceEqDiff, Int.reduceToNat, ↓reduceIte]
  refine (constant_ac _ _).to ?_
  rw [enc_c]
  simp only [push_cast, Nat.reduceAdd, Nat.reduceSub, Nat.reduceMul, Nat.reduceLT, Nat.reduceLeDiff, Nat.reduceEqDiff, Int.reduceToNat, ↓reduceIte]
  refine (constant_ac _ _).to ?_
  rw [enc_c]
  simp only [push_cast, Nat.reduceAdd, Nat.reduceSub, Nat.reduceMul, Nat.reduceLT, Nat.reduceLeDiff, Nat.reduceEqDiff, Int.reduceToNat, ↓reduceIte]
  refine (hx _).to ?_
  simp only [push_cast, Nat.reduceAdd, Nat.reduceSub, Nat.reduceMul, Nat.reduceLT, Nat.reduceLeDiff, Nat.reduceEqDiff, Int.reduceToNat, ↓reduceIte, encGE]
  refine (constant_ac _ _).to ?_
  rw [enc_c]
  simp only [push_cast, Nat.reduceAdd, Nat.reduceSub, Nat.reduceMul, Nat.reduceLT, Nat.reduceLeDiff, Nat.reduceEqDiff, Int.reduceToNat, ↓reduceIte]
  refine (hn _).to ?_
  simp only [push_cast, Nat.reduceAdd, Nat.reduceSub, Nat.reduceMul, Nat.reduceLT, Nat.reduceLeDiff, Nat.reduceEqDiff, Int.reduceToNat, ↓reduceIte]
  refine (constant_ac _ _).to ?_
  rw [enc_c]
  simp only [push_cast, Nat.reduceAdd, Nat.reduceSub, Nat.reduceMul, Nat.reduceLT, Nat.reduceLeDiff, Nat.reduceEqDiff, Int.reduceToNat, ↓reduceIte]
  refine (hlg _).to ?_
  simp only [push_cast, Nat.reduceAdd, Nat.reduceSub, Nat.reduceMul, Nat.reduceLT, Nat.reduceLeDiff, Nat.reduceEqDiff, Int.reduceToNat, ↓reduceIte]
  apply AW_drawE [some 40, some 41, some 42, some 43, some 44, some 45, some 46, some 47, some 48, some 49, some 50, some 51, some 52, some 53, some 54, some 55, some 56, some 57, some 58, some 59, some 60, some 61, some 62, some 63, some 64, some 65, some 66, some 67, some 68, some 69, some 70, some 71, some 72, some 73, some 74, some 75, some 76, some 77, some 78, some 79, some 80, some 81, some 0] [([], _)] [none, none, none, none, none, none, none, none, none, none, none, none, none, none, none, none, none, none, none, none, none, none, none, none, none, none, none, none, none, none, none, none, none, none, none, none, none, none, none, none, none, none, none] 0 [(0, [], [3]), (1, [], [40]), (2, [], [41]), (3, [], [2, 39]), (4, [], [42, 0]), (5, [], [42]), (6, [], [42]), (7, [], [42]), (8, [], [42, 2, 0, 0]), (9, [], [42, 1, 3]), (10, [], [42, 6]), (11, [], [50]), (12, [], [2, 48]), (13, [], [51, 0]), (14, [], [51, 1]), (15, [], [51, 2]), (16, [], [51, 3]), (17, [], [56]), (18, [], [2, 54]), (19, [], [57, 0]), (20, [], [57, 1]), (21, [], [60]), (22, [], [6, 54]), (23, [], [61, 0]), (24, [], [61, 1]), (25, [], [64]), (26, [], [5, 59]), (27, [], [65, 0]), (28, [], [67]), (29, [], [4, 63]), (30, [], [68]), (31, [], [68, 1]), (32, [], [68, 0, 1]), (33, [], [68, 3]), (34, [], [73]), (35, [], [9, 64]), (36, [], [74, 0]), (37, [], [74, 1]), (38, [], [77]), (39, [], [8, 69]), (40, [], [78, 0]), (41, [], [78, 1]), (42, [], [81])] [_, _, _, _, _, _, _, _, _, _, _, _, _, _, _, _, _, _, _, _, _, _, _, _, _, _, _, _, _, _, _, _, _, _, _, _, _, _, _, _, _, _, _]
  case' hm => exact dr
  case' hn => rfl
  case' hok => rfl
  case' hlen => rfl
  case' hd => rfl
  case' h0 => rfl
  case' hstep =>
   simp only [DAllG, push_cast, Option.isSome_some, Option.isSome_none]
   repeat' apply And.intro
   all_goals (apply DOne_V; simp only [push_cast, Nat.reduceAdd, Nat.reduceSub, Nat.reduceMul, Nat.reduceLT, Nat.reduceLeDiff, Nat.reduceEqDiff, Int.reduceToNat, ↓reduceIte, hes, hwh, decide_true, Bool.not_false, Bool.not_true] <;> first | exact rfl | omega | exact ⟨rfl, rfl⟩ | exact trivial | exact ⟨by omega, rfl⟩ | exact ⟨by omega, by omega, rfl⟩ | exact ⟨by omega, rfl, rfl⟩ | exact ⟨by omega, by omega, rfl, rfl⟩ | (refine (constant_ac _ _).to ?_; rw [enc_c]; exact ⟨rfl, rfl⟩) | (refine (hs3 _).to ?_; exact ⟨rfl, rfl⟩) | (refine (hs1 _).to ?_; exact ⟨rfl, rfl⟩) | rfl | exact decide_eq_true rfl | trace_state)
  case' hQ => skip
  simp only [push_cast, Nat.reduceAdd, Nat.reduceSub, Nat.reduceMul, Nat.reduceLT, Nat.reduceLeDiff, Nat.reduceEqDiff, Int.reduceToNat, ↓reduceIte]
end Ab
set_option maxRecDepth 10000
namespace Ab
open Go Go.Proofs
theorem sameSteps_ac (a b : List (Int × List Int)) (h1 : a.length < 1099511627776) (h2 : b.length < 1099511627776) (h3 : ∀ x, x ∈ a → x.2.length < 1099511627776) (h4 : ∀ x, x ∈ b → x.2.length < 1099511627776) (H : List AObj) :
    ACall Tryz.prog 53 [.sl .none (encL encSt a), .sl .none (encL encSt b)] H (fun r H' => r = .bool (decide (a = b)) ∧ H' = H) := by
  refine ACall_V (H.length) 40 [.tmp 4] Tryz.func53 rfl rfl rfl ?_
  simp only [push_cast, Nat.reduceAdd, Nat.reduceSub, Nat.reduceMul, Nat.reduceLT, Nat.reduceLeDiff, Nat.reduceEqDiff, Int.reduceToNat, ↓reduceIte]
  refine cI (fun hl => ?_) (fun hl => ?_)
  · have hl : a.length = b.length := by omega
    refine AW_loopW (maskG 42 [0, 0, 10, 0]) (fun (i : Nat) => [(13, .int .i64 i)]) (fun _ => H) (fun i => i ≤ a.length ∧ a.take i = b.take i) (fun i => a.length - i) 0 ⟨Nat.zero_le _, rfl⟩ (by simp only [push_cast, Nat.reduceAdd, Nat.reduceSub, Nat.reduceMul, Nat.reduceLT, Nat.reduceLeDiff, Nat.reduceEqDiff, Int.reduceToNat, ↓reduceIte]) (fun i hi => ?_)
    simp only [push_cast, Nat.reduceAdd, Nat.reduceSub, Nat.reduceMul, Nat.reduceLT, Nat.reduceLeDiff, Nat.reduceEqDiff, Int.reduceToNat, ↓reduceIte]
    refine cI (fun h => ?_) (fun h => ?_)
    · repeat refine ⟨by omega, ?_⟩
      have hia : i < a.length := by omega
      have hib : i < b.length := by omega
      have heq := fun H => samePosR_ac (a[i]'hia).2 (b[i]'hib).2 (h3 _ (List.getElem_mem hia)) (h4 _ (List.getElem_mem hib)) H
      by_cases hn : (a[i]'hia).1 = (b[i]'hib).1
      · have hd : decide ((a[i]'hia).1 = (b[i]'hib).1) = true := by simpa using hn
        apply AW_drawE [some 16, some 17, some 18, some 19, some 20, some 21, some 22, some 23, some 24, some 25, some 26, some 27, some 28, some 29, some 30, some 31, some 32, some 33, some 34, some 35, some 36, some 37, some 38, some 39, some 40] [([], _)] [none, none, none, none, none, none, none, none, none, none, none, none, none, none, none, none, none, none, none, none, none, none, none, none, none] 0 [(0, [], [0]), (1, [], [5]), (2, [], [16, 0]), (3, [], [18]), (4, [], [19]), (5, [], [1]), (6, [], [5]), (7, [], [21, 0]), (8, [], [23]), (9, [], [24]), (10, [], [20, 4]), (11, [], [26]), (12, [], [0, 26]), (13, [], [5, 21]), (14, [], [27, 0, 0]), (15, [], [27, 2]), (16, [], [27, 3]), (17, [], [1, 25]), (18, [], [5, 21]), (19, [], [27, 5, 0]), (20, [], [27, 7]), (21, [], [27, 8]), (22, [], [27, 4, 4]), (23, [], [27, 10]), (24, [], [27, 11])] [_, _, _, _, _, _, _, _, _, _, _, _, _, _, _, _, _, _, _, _, _, _, _, _, _]
        case' hm => exact dr
        case' hn => rfl
        case' hok => rfl
        case' hlen => rfl
        case' hd => rfl
        case' h0 => rfl
        case' hstep =>
         simp only [DAllG, push_cast, Option.isSome_some, Option.isSome_none]
         repeat' apply And.intro
         all_goals (apply DOne_V; simp only [push_cast, Nat.reduceAdd, Nat.reduceSub, Nat.reduceMul, Nat.reduceLT, Nat.reduceLeDiff, Nat.reduceEqDiff, Int.reduceToNat, ↓reduceIte, hd, Bool.not_true] <;> first | exact rfl | omega | exact ⟨rfl, rfl⟩ | exact trivial | exact ⟨by omega, rfl⟩ | exact ⟨by omega, by omega, rfl⟩ | exact ⟨by omega, rfl, rfl⟩ | exact ⟨by omega, by omega, rfl, rfl⟩ | exact ⟨by omega, trivial⟩ | exact (heq _).to ⟨rfl, rfl⟩)
        case' hQ => skip
        simp only [push_cast, Nat.reduceAdd, Nat.reduceSub, Nat.reduceMul, Nat.reduceLT, Nat.reduceLeDiff, Nat.reduceEqDiff, Int.reduceToNat, ↓reduceIte, hd, Bool.not_true]
        refine cI (fun he => ?_) (fun he => ?_)
        · repeat' first | refine ⟨by omega, ?_⟩ | refine cI (fun _ => ?_) (fun _ => ?_)
          refine loopW_n (i + 1) ⟨by omega, ?_⟩ (by omega) (by simp only [push_cast, Nat.reduceAdd, Nat.reduceSub, Nat.reduceMul, Nat.reduceLT, Nat.reduceLeDiff, Nat.reduceEqDiff, Int.reduceToNat, ↓reduceIte])
          rw [List.take_succ_eq_append_getElem hia, List.take_succ_eq_append_getElem hib, hi.2]
          congr 2
          exact Prod.ext hn he
        · have hne : a ≠ b := fun e => he (by subst e; rfl)
          simp [hne]
      · have hd : decide ((a[i]'hia).1 = (b[i]'hib).1) = false := by simpa using hn
        apply AW_drawE [some 16, some 17, some 18, some 19, some 20, some 21, some 22, some 23, some 24, some 25, some 26, some 27, some 28, some 29, some 30, some 31, some 32, some 33, some 34, some 35, some 36, some 37, some 38, some 39, some 40] [([], _)] [none, none, none, none, none, none, none, none, none, none, none, none, none, none, none, none, none, none, none, none, none, none, none, none, none] 0 [(0, [], [0]), (1, [], [5]), (2, [], [16, 0]), (3, [], [18]), (4, [], [19]), (5, [], [1]), (6, [], [5]), (7, [], [21, 0]), (8, [], [23]), (9, [], [24]), (10, [], [20, 4]), (11, [], [26]), (12, [], [0, 26]), (13, [], [5, 21]), (14, [], [27, 0, 0]), (15, [], [27, 2]), (16, [], [27, 3]), (17, [], [1, 25]), (18, [], [5, 21]), (19, [], [27, 5, 0]), (20, [], [27, 7]), (21, [], [27, 8]), (22, [], [27, 4, 4]), (23, [], [27, 10]), (24, [], [27, 11])] [_, _, _, _, _, _, _, _, _, _, _, _, _, _, _, _, _, _, _, _, _, _, _, _, _]
        case' hm => exact dr
        case' hn => rfl
        case' hok => rfl
        case' hlen => rfl
        case' hd => rfl
        case' h0 => rfl
        case' hstep =>
         simp only [DAllG, push_cast, Option.isSome_some, Option.isSome_none]
         repeat' apply And.intro
         all_goals (apply DOne_V; simp only [push_cast, Nat.reduceAdd, Nat.reduceSub, Nat.reduceMul, Nat.reduceLT, Nat.reduceLeDiff, Nat.reduceEqDiff, Int.reduceToNat, ↓reduceIte, hd, Bool.not_false] <;> first | exact rfl | omega | exact ⟨rfl, rfl⟩ | exact trivial | exact ⟨by omega, rfl⟩ | exact ⟨by omega, by omega, rfl⟩ | exact ⟨by omega, rfl, rfl⟩ | exact ⟨by omega, by omega, rfl, rfl⟩ | exact ⟨by omega, trivial⟩)
        case' hQ => skip
        have hne : a ≠ b := fun e => hn (by subst e; rfl)
        simp only [push_cast, Nat.reduceAdd, Nat.reduceSub, Nat.reduceMul, Nat.reduceLT, Nat.reduceLeDiff, Nat.reduceEqDiff, Int.reduceToNat, ↓reduceIte, hd, Bool.not_false, decide_eq_false hne]
    · have e := hi.2
      rw [List.take_of_length_le (by omega), List.take_of_length_le (by omega)] at e
      simp [e]
  · have hne : a ≠ b := fun e => hl (by rw [e])
    simp [hne]
def ChB (c : Term × List (Int × List Int)) : Prop := c.1.bulk ≤ 1099511627775 ∧ c.2.length < 1099511627776 ∧ ∀ x, x ∈ c.2 → x.2.length < 1099511627776
end Ab
set_option maxRecDepth 10000
namespace Ab
open Go Go.Proofs
theorem uniCh (l : List (Term × List (Int × List Int))) : Uni (3 + 1) (encL encCh l) = True := eq_true (uni_encL (enc := encCh) (k := 4) (fun _ => rfl) l)
theorem scopedCh (n : Nat) (l : List (Term × List (Int × List Int))) : ScopedL n (encL encCh l) = True := eq_true (scoped_encL (fun x => by simp [Scoped, ScopedL, scoped_encTs, scSt_]) l)
attribute [push_cast] uniCh scopedCh
def firstC (rs : List (Term × Term)) : List (Term × List (Int × List Int)) → Int
  | [] => 0
  | c :: r => if (termsE rs c).2 = 0 then firstC rs r else (termsE rs c).2
theorem firstC_skip (rs : List (Term × Term)) (cs : List (Term × List (Int × List Int))) : ∀ (i : Nat), (∀ x, x ∈ cs.take i → (termsE rs x).2 = 0) → firstC rs cs = firstC rs (cs.drop i) := by
  induction cs with
  | nil => intro i _; simp
  | cons t r ih =>
    intro i h
    cases i with
    | zero => rfl
    | succ i =>
      rw [List.drop_succ_cons, firstC, if_pos (h t (by simp))]
      exact ih i (fun x hx => h x (by simp [hx]))
def checkCP (rs : List (Term × Term)) (cs : List (Term × List (Int × List Int))) : Int := if sysP rs ≠ 0 then sysP rs else firstC rs cs
theorem checkC_ac (rs : List (Term × Term)) (hlen : rs.length < 1099511627776) (hru : RuB rs) (cs : List (Term × List (Int × List Int))) (hl : cs.length < 1099511627776) (hc : ∀ c, c ∈ cs → ChB c) (H : List AObj) :
    ACall Tryz.prog 12 [.sl .none (encL encRu rs), .sl .none (encL encCh cs)] H (fun r H' => r = .int .i64 (checkCP rs cs) ∧ H' = H) := by
  have hb : BndR rs := fun r hr => by have := hru r hr; omega
  refine ACall_V (H.length) 29 [.tmp 4] Tryz.func12 rfl rfl rfl ?_
  simp only [push_cast, Nat.reduceAdd, Nat.reduceSub, Nat.reduceMul, Nat.reduceLT, Nat.reduceLeDiff, Nat.reduceEqDiff, Int.reduceToNat, ↓reduceIte]
  refine (checkSystemR_ac rs hlen hb _).to ?_
  simp only [push_cast, Nat.reduceAdd, Nat.reduceSub, Nat.reduceMul, Nat.reduceLT, Nat.reduceLeDiff, Nat.reduceEqDiff, Int.reduceToNat, ↓reduceIte]
  unfold checkCP
  refine cI (fun h => ?_) (fun h => ?_)
  · rw [if_neg (by simpa using h)]
    refine AW_loopW (maskG 31 [0, 14, 0, 0]) (fun (i : Nat) => [(17, .int .i64 i)]) (fun _ => H) (fun i => i ≤ cs.length ∧ ∀ x, x ∈ cs.take i → (termsE rs x).2 = 0) (fun i => cs.length - i) 0 ⟨Nat.zero_le _, by simp⟩ (by simp only [push_cast, Nat.reduceAdd, Nat.reduceSub, Nat.reduceMul, Nat.reduceLT, Nat.reduceLeDiff, Nat.reduceEqDiff, Int.reduceToNat, ↓reduceIte]) (fun i hi => ?_)
    obtain ⟨hi1, hi2⟩ := hi
    have he := firstC_skip rs cs i hi2
    simp only [push_cast, Nat.reduceAdd, Nat.reduceSub, Nat.reduceMul, Nat.reduceLT, Nat.reduceLeDiff, Nat.reduceEqDiff, Int.reduceToNat, ↓reduceIte]
    refine cI (fun h => ?_) (fun h => ?_)
    · have hil : i < cs.length := by omega
      have hcb := hc _ (List.getElem_mem hil)
      rw [List.drop_eq_getElem_cons hil, firstC] at he
      refine ⟨hil, ?_⟩
      refine (termsR_ac rs hru (cs[i]'hil) hcb.1 hcb.2.1 hcb.2.2 _).to ?_
      simp only [push_cast, Nat.reduceAdd, Nat.reduceSub, Nat.reduceMul, Nat.reduceLT, Nat.reduceLeDiff, Nat.reduceEqDiff, Int.reduceToNat, ↓reduceIte, encTE]
      refine cI (fun h2 => ?_) (fun h2 => ?_)
      · repeat' first | refine ⟨by omega, ?_⟩ | refine cI (fun _ => ?_) (fun _ => ?_)
        refine loopW_n (i + 1) ⟨by omega, fun x hx => ?_⟩ (by omega) (by simp only [push_cast, Nat.reduceAdd, Nat.reduceSub, Nat.reduceMul, Nat.reduceLT, Nat.reduceLeDiff, Nat.reduceEqDiff, Int.reduceToNat, ↓reduceIte])
        rw [List.take_succ_eq_append_getElem hil] at hx
        rcases List.mem_append.1 hx with hx | hx
        · exact hi2 x hx
        · rw [List.mem_singleton] at hx; rw [hx]; exact h2
      · rw [he, if_neg h2]
    · rw [he, List.drop_of_length_le (show cs.length ≤ i by omega)]
      rfl
  · rw [if_pos h]
theorem strategy_ac5 (s : Int) (H : List AObj) : ACall Tryz.prog 17 [.int .i64 s] H (fun r H' => r = .bool (decide (1 ≤ s) && decide (s ≤ 5)) ∧ H' = H) := by
  refine ACall_V (H.length) 8 [.tmp 2] Tryz.func17 rfl rfl rfl ?_
  simp only [push_cast, Nat.reduceAdd, Nat.reduceSub, Nat.reduceMul, Nat.reduceLT, Nat.reduceLeDiff, Nat.reduceEqDiff, Int.reduceToNat, ↓reduceIte]
  refine cI (fun h => ?_) (fun h => ?_)
  · rw [decide_eq_true h, Bool.true_and]
  · rw [decide_eq_false h, Bool.false_and]
theorem term5_ac (t : Term) (e : Int) (want : Term) (bad : Int) (h1 : t.bulk ≤ 1099511627775) (h2 : want.bulk ≤ 1099511627775) (H : List AObj) :
    ACall Tryz.prog 13 [encT t, .int .i64 e, encT want, .int .i64 bad] H (fun r H' => r = .bool (isP t e want bad) ∧ H' = H) := by
  refine ACall_V (H.length) 22 [.tmp 8] Tryz.func13 rfl rfl rfl ?_
  simp only [push_cast, Nat.reduceAdd, Nat.reduceSub, Nat.reduceMul, Nat.reduceLT, Nat.reduceLeDiff, Nat.reduceEqDiff, Int.reduceToNat, ↓reduceIte]
  unfold isP
  refine cI (fun h => cI (fun he => ?_) (fun he => ?_)) (fun h => cI (fun he => ?_) (fun he => ?_))
  · refine (equalR_ac t want h1 h2 _).to ?_
    simp only [push_cast, Nat.reduceAdd, Nat.reduceSub, Nat.reduceMul, Nat.reduceLT, Nat.reduceLeDiff, Nat.reduceEqDiff, Int.reduceToNat, ↓reduceIte]
    simp [h, he]
  · simp [h, he]
  · refine ACall.forget (args' := [encT t, encT zeroT]) ⟨Forget.refl _, fgtW_spec _ _ (by simp only [push_cast, Nat.reduceAdd, Nat.reduceSub, Nat.reduceMul, Nat.reduceLT, Nat.reduceLeDiff, Nat.reduceEqDiff, Int.reduceToNat, ↓reduceIte]), trivial⟩ ((equalR_ac t zeroT h1 (by simp [zeroT, Term.bulk_mk]) _).to ?_)
    simp only [push_cast, Nat.reduceAdd, Nat.reduceSub, Nat.reduceMul, Nat.reduceLT, Nat.reduceLeDiff, Nat.reduceEqDiff, Int.reduceToNat, ↓reduceIte]
    simp [h, he]
  · simp [h, he]
def followsP (rs : List (Term × Term)) (T : List Term) (l : List (Int × List Int)) (st : Int) : Bool := (List.range l.length).all fun i => decide (l.getD i (0, []) ∈ underP rs (T.getD i zeroT) st)
theorem followsC1_ac (x s : Int × List Int) (b : Nat) (hx : x.2.length < 1099511627776) (hs : s.2.length < 1099511627776) (H : List AObj) (hb : H[b]? = some (.cells [.int .i64 s.1, .sl .none (encP s.2)])) :
    ACall Tryz.prog 47 [encSt x, .ptr b 0] H (fun r H' => r = .bool (decide (x = s)) ∧ H' = H) := by
  refine ACall_V (H.length) 14 [.tmp 3] Tryz.func47 rfl rfl rfl ?_
  have hb' : (H ++ [.cells [.int .i64 x.1, .sl .none (encP x.2)]])[b]? = some (.cells [.int .i64 s.1, .sl .none (encP s.2)]) := by
    rw [List.getElem?_append_left (List.getElem?_eq_some_iff.1 hb).1]; exact hb
  simp only [push_cast, Nat.reduceAdd, Nat.reduceSub, Nat.reduceMul, Nat.reduceLT, Nat.reduceLeDiff, Nat.reduceEqDiff, Int.reduceToNat, ↓reduceIte, hb']
  refine cI (fun h => ?_) (fun h => ?_)
  · refine (equalI_ac x.2 s.2 hx hs _).to ?_
    simp only [push_cast, Nat.reduceAdd, Nat.reduceSub, Nat.reduceMul, Nat.reduceLT, Nat.reduceLeDiff, Nat.reduceEqDiff, Int.reduceToNat, ↓reduceIte]
    have : (x = s) ↔ x.2 = s.2 := ⟨fun e => by rw [e], fun e => Prod.ext h e⟩
    simp [this]
  · have hne : ¬ x = s := fun e => h (by rw [e])
    simp [hne]
theorem indexSt5_ac (l : List (Int × List Int)) (g : Nat) (caps : List AV) (p : (Int × List Int) → Bool) (H : List AObj) (hlen : l.length < 1099511627776) (hg : callOk Tryz.prog g = true) (hsc : ScopedL H.length caps)
    (hf : ∀ i (h : i < l.length), ACall Tryz.prog g (encSt l[i] :: caps) H (fun r H' => r = .bool (p l[i]) ∧ H' = H)) :
    ACall Tryz.prog 95 [.sl .none (encL encSt l), .fn g caps] H (fun r H' => ∃ n : Int, r = .int .i64 n ∧ (0 ≤ n ↔ l.any p = true) ∧ H' = H) := by
  refine ACall_W (H.length) 17 [.tmp 4] Tryz.func95 rfl rfl rfl ?_
  simp only [push_cast, Nat.reduceAdd, Nat.reduceSub, Nat.reduceMul, Nat.reduceLT, Nat.reduceLeDiff, Nat.reduceEqDiff, Int.reduceToNat, ↓reduceIte]
  refine AW_loopW (maskG 19 [0, 0, 5, 0]) (fun (i : Nat) => [(8, .int .i64 i)]) (fun _ => H) (fun i => i ≤ l.length ∧ (l.take i).any p = false) (fun i => l.length - i) 0 ⟨Nat.zero_le _, by simp⟩ (by simp only [push_cast, Nat.reduceAdd, Nat.reduceSub, Nat.reduceMul, Nat.reduceLT, Nat.reduceLeDiff, Nat.reduceEqDiff, Int.reduceToNat, ↓reduceIte, hsc]) (fun i hi => ?_)
  simp only [push_cast, Nat.reduceAdd, Nat.reduceSub, Nat.reduceMul, Nat.reduceLT, Nat.reduceLeDiff, Nat.reduceEqDiff, Int.reduceToNat, ↓reduceIte, hg]
  refine cI (fun h => ⟨by omega, (hf i (by omega)).to ?_⟩) (fun h => ?_)
  · simp only [push_cast, Nat.reduceAdd, Nat.reduceSub, Nat.reduceMul, Nat.reduceLT, Nat.reduceLeDiff, Nat.reduceEqDiff, Int.reduceToNat, ↓reduceIte]
    refine cI (fun hp => ?_) (fun hp => ⟨by omega, loopW_n (i + 1) ⟨by omega, any_take_false hi.2 (by omega) (by simpa using hp)⟩ (by omega) (by simp only [push_cast, Nat.reduceAdd, Nat.reduceSub, Nat.reduceMul, Nat.reduceLT, Nat.reduceLeDiff, Nat.reduceEqDiff, Int.reduceToNat, ↓reduceIte, hsc])⟩)
    exact ⟨i, rfl, ⟨fun _ => any_get (by omega) hp, fun _ => by omega⟩⟩
  · have hs : l.take i = l := List.take_of_length_le (by omega)
    rw [hs] at hi
    exact ⟨-1, rfl, ⟨by omega, fun h => by rw [hi.2] at h; cases h⟩⟩
theorem containsSt5_ac (l : List (Int × List Int)) (g : Nat) (caps : List AV) (p : (Int × List Int) → Bool) (H : List AObj) (hlen : l.length < 1099511627776) (hg : callOk Tryz.prog g = true) (hsc : ScopedL H.length caps)
    (hf : ∀ i (h : i < l.length), ACall Tryz.prog g (encSt l[i] :: caps) H (fun r H' => r = .bool (p l[i]) ∧ H' = H)) :
    ACall Tryz.prog 45 [.sl .none (encL encSt l), .fn g caps] H (fun r H' => r = .bool (l.any p) ∧ H' = H) := by
  refine ACall_W (H.length) 7 [.tmp 4] Tryz.func45 rfl rfl rfl ?_
  simp only [push_cast, Nat.reduceAdd, Nat.reduceSub, Nat.reduceMul, Nat.reduceLT, Nat.reduceLeDiff, Nat.reduceEqDiff, Int.reduceToNat, ↓reduceIte]
  refine (indexSt5_ac _ g caps p _ hlen hg hsc hf).mono ?_
  rintro r H ⟨n, rfl, hn, rfl⟩
  simp only [push_cast, Nat.reduceAdd, Nat.reduceSub, Nat.reduceMul, Nat.reduceLT, Nat.reduceLeDiff, Nat.reduceEqDiff, Int.reduceToNat, ↓reduceIte, hn]
  cases l.any p <;> simp
theorem any_eq_mem (l : List (Int × List Int)) (s : Int × List Int) : (l.any fun x => decide (x = s)) = decide (s ∈ l) := by
  rw [Bool.eq_iff_iff, List.any_eq_true, decide_eq_true_eq]
  constructor
  · rintro ⟨x, hx, h⟩
    have := of_decide_eq_true h
    rw [← this]; exact hx
  · exact fun h => ⟨s, h, decide_eq_true rfl⟩
theorem range_take {p : Nat → Bool} {n i : Nat} (h : ∀ j, j < i → p j = true) (hn : n ≤ i) : (List.range n).all p = true := by
  rw [List.all_eq_true]; exact fun j hj => h j (by have := List.mem_range.1 hj; omega)
theorem range_bad {p : Nat → Bool} {n i : Nat} (hi : i < n) (h : p i = false) : (List.range n).all p = false := by
  rw [Bool.eq_false_iff]
  intro hh
  rw [List.all_eq_true] at hh
  have := hh i (List.mem_range.2 hi)
  rw [h] at this; cases this
def followsC (rs : List (Term × Term)) (c : Term × List (Int × List Int)) (st : Int) : Bool × Int := if (termsC rs c).2 ≠ 0 then (false, (termsC rs c).2) else if st < 1 ∨ 5 < st then (false, 2) else (followsP rs (termsC rs c).1 c.2 st, 0)
theorem termsC_spec {rs : List (Term × Term)} {c : Term × List (Int × List Int)} (h : (termsC rs c).2 = 0) : sysP rs = 0 ∧ (termsC rs c).1.length = 1 + c.2.length ∧ c.2.length ≤ 4096 ∧ ∀ x, x ∈ (termsC rs c).1 → checkP x = 0 := by
  obtain ⟨h1, h2, h3⟩ := termsC_zero h
  obtain ⟨_, a, b, d⟩ := terms_chain h1 h2
  rw [h3]
  exact ⟨h1, b, d, a⟩
theorem under_lens {rs : List (Term × Term)} (hr : sysP rs = 0) {t : Term} (ht : checkP t = 0) (s : Int) : (underP rs t s).length < 1099511627776 ∧ ∀ x, x ∈ underP rs t s → x.2.length < 1099511627776 := by
  have hc := check_small ht
  refine ⟨?_, fun x hx => by have := step_len (under_mem hx); omega⟩
  have h1 : (underP rs t s).length ≤ (allS rs t).length := by
    rw [under_eq]
    unfold redR
    split
    · exact Nat.le_trans (redF_len _) (List.length_filter_le _ _)
    · exact List.length_filter_le _ _
  have := allS_len hr ht
  omega
set_option maxHeartbeats 2000000 in
theorem follows_ac (rs : List (Term × Term)) (hlen : rs.length < 1099511627776) (hb : BndR rs) (c : Term × List (Int × List Int)) (hc : ChB c) (st : Int) (H : List AObj) :
    ACall Tryz.prog 11 [.sl .none (encL encRu rs), encCh c, .int .i64 st] H (fun r H' => r = .tup [.bool (followsC rs c st).1, .int .i64 (followsC rs c st).2] ∧ H' = H) := by
  refine ACall_V (H.length) 43 [.tmp 6, .tmp 7] Tryz.func11 rfl rfl rfl ?_
  simp only [push_cast, Nat.reduceAdd, Nat.reduceSub, Nat.reduceMul, Nat.reduceLT, Nat.reduceLeDiff, Nat.reduceEqDiff, Int.reduceToNat, ↓reduceIte]
  refine (dterms_ac rs hlen hb c hc.1 hc.2.1 hc.2.2 _).to ?_
  simp only [push_cast, Nat.reduceAdd, Nat.reduceSub, Nat.reduceMul, Nat.reduceLT, Nat.reduceLeDiff, Nat.reduceEqDiff, Int.reduceToNat, ↓reduceIte, encTE]
  unfold followsC
  refine cI (fun h => ?_) (fun h => ?_)
  · rw [if_neg (by simpa using h)]
    obtain ⟨z1, z2, z3, z4⟩ := termsC_spec h
    obtain ⟨T, hT⟩ : ∃ T, T = (termsC rs c).1 := ⟨_, rfl⟩
    rw [← hT] at z2 z4 ⊢
    refine cI (fun h1 => ?_) (fun h1 => ?_)
    · rw [if_pos (.inl h1)]
      simp only [push_cast, Nat.reduceAdd, Nat.reduceSub, Nat.reduceMul, Nat.reduceLT, Nat.reduceLeDiff, Nat.reduceEqDiff, Int.reduceToNat, ↓reduceIte]
    · refine cI (fun h2 => ?_) (fun h2 => ?_)
      · rw [if_pos (.inr h2)]
        simp only [push_cast, Nat.reduceAdd, Nat.reduceSub, Nat.reduceMul, Nat.reduceLT, Nat.reduceLeDiff, Nat.reduceEqDiff, Int.reduceToNat, ↓reduceIte]
      · rw [if_neg (by omega)]
        unfold followsP
        refine AW_loopW (maskG 46 [0, 1, 5, 19, 0, 0]) (fun (i : Nat) => [(30, .int .i64 i)]) (fun _ => H ++ [.cells [.str c.1.name, .bool c.1.var, .sl .none (encTs c.1.args), .sl .none (encL encSt c.2)]]) (fun i => i ≤ c.2.length ∧ ∀ j, j < i → decide (c.2.getD j (0, []) ∈ underP rs (T.getD j zeroT) st) = true) (fun i => c.2.length - i) 0 ⟨Nat.zero_le _, fun _ h => absurd h (by omega)⟩ (by simp only [push_cast, Nat.reduceAdd, Nat.reduceSub, Nat.reduceMul, Nat.reduceLT, Nat.reduceLeDiff, Nat.reduceEqDiff, Int.reduceToNat, ↓reduceIte]) (fun i hi => ?_)
        obtain ⟨hi1, hi2⟩ := hi
        simp only [push_cast, Nat.reduceAdd, Nat.reduceSub, Nat.reduceMul, Nat.reduceLT, Nat.reduceLeDiff, Nat.reduceEqDiff, Int.reduceToNat, ↓reduceIte]
        refine cI (fun h3 => ?_) (fun h3 => ?_)
        · have hil : i < c.2.length := by omega
          have hiT : i < T.length := by omega
          obtain ⟨s, hs⟩ : ∃ s, s = c.2[i]'hil := ⟨_, rfl⟩
          obtain ⟨u, hu⟩ : ∃ u, u = T[i]'hiT := ⟨_, rfl⟩
          have hsb := hc.2.2 _ (List.getElem_mem hil)
          have huc := z4 _ (List.getElem_mem hiT)
          have e1 : c.2.getD i (0, []) = s := by rw [hs]; simp [hil]
          have e2 : T.getD i zeroT = u := by rw [hu]; simp [hiT]
          refine ⟨hil, hiT, ?_⟩
          rw [← hs] at hsb ⊢
          rw [← hu] at huc ⊢
          have hus := check_small huc
          obtain ⟨w1, w2⟩ := under_lens z1 huc st
          refine (under_ac rs (sys_B z1).1 u (by omega) st _).to ?_
          simp only [push_cast, Nat.reduceAdd, Nat.reduceSub, Nat.reduceMul, Nat.reduceLT, Nat.reduceLeDiff, Nat.reduceEqDiff, Int.reduceToNat, ↓reduceIte]
          refine (containsSt5_ac (underP rs u st) 47 [.ptr (H.length + 1) 0] (fun x => decide (x = s)) _ w1 ok47 (by simp only [push_cast, Nat.reduceAdd, Nat.reduceSub, Nat.reduceMul, Nat.reduceLT, Nat.reduceLeDiff, Nat.reduceEqDiff, Int.reduceToNat, ↓reduceIte]) (fun i h => followsC1_ac _ s _ (w2 _ (List.getElem_mem h)) hsb _ (by exact (agetN _ _ 1).trans rfl))).to ?_
          simp only [push_cast, Nat.reduceAdd, Nat.reduceSub, Nat.reduceMul, Nat.reduceLT, Nat.reduceLeDiff, Nat.reduceEqDiff, Int.reduceToNat, ↓reduceIte]
          rw [any_eq_mem]
          refine cI (fun h4 => ?_) (fun h4 => ?_)
          · repeat' first | refine ⟨by omega, ?_⟩ | refine cI (fun _ => ?_) (fun _ => ?_)
            refine loopW_n (i + 1) ⟨by omega, fun j hj => ?_⟩ (by omega) (by simp only [push_cast, Nat.reduceAdd, Nat.reduceSub, Nat.reduceMul, Nat.reduceLT, Nat.reduceLeDiff, Nat.reduceEqDiff, Int.reduceToNat, ↓reduceIte])
            by_cases e : j = i
            · rw [e, e1, e2]; exact of_decide_eq_true h4
            · exact of_decide_eq_true (hi2 j (by omega))
          · rw [range_bad hil (by rw [e1, e2]; exact decide_eq_false (by simpa using h4))]
        · rw [range_take hi2 (show c.2.length ≤ i by omega)]
  · rw [if_pos h]
    simp only [push_cast, Nat.reduceAdd, Nat.reduceSub, Nat.reduceMul, Nat.reduceLT, Nat.reduceLeDiff, Nat.reduceEqDiff, Int.reduceToNat, ↓reduceIte]
end Ab
set_option maxRecDepth 10000
namespace Ab
open Go Go.Proofs
theorem mem_take_succ {l : List (Int × List Int)} {s : Int × List Int} {j : Nat} (h : j < l.length) : decide (s ∈ l.take (j + 1)) = (decide (s ∈ l.take j) || decide (l[j] = s)) := by
  rw [List.take_succ_eq_append_getElem h, Bool.eq_iff_iff, Bool.or_eq_true, decide_eq_true_eq, decide_eq_true_eq, decide_eq_true_eq, List.mem_append, List.mem_singleton]
  exact or_congr Iff.rfl eq_comm
set_option maxHeartbeats 2000000 in
theorem followsR_ac (rs : List (Term × Term)) (hr : sysP rs = 0) (hru : RuB rs) (c : Term × List (Int × List Int)) (hc : ChB c) (h0 : (termsE rs c).2 = 0) (st : Int) (H : List AObj) :
    ACall Tryz.prog 18 [.sl .none (encL encRu rs), encCh c, .int .i64 st] H (fun r H' => r = .bool (followsP rs (termsE rs c).1 c.2 st) ∧ H' = H) := by
  refine ACall_V (H.length) 49 [.tmp 6] Tryz.func18 rfl rfl rfl ?_
  simp only [push_cast, Nat.reduceAdd, Nat.reduceSub, Nat.reduceMul, Nat.reduceLT, Nat.reduceLeDiff, Nat.reduceEqDiff, Int.reduceToNat, ↓reduceIte]
  refine (termsR_ac rs hru c hc.1 hc.2.1 hc.2.2 _).to ?_
  simp only [push_cast, Nat.reduceAdd, Nat.reduceSub, Nat.reduceMul, Nat.reduceLT, Nat.reduceLeDiff, Nat.reduceEqDiff, Int.reduceToNat, ↓reduceIte, encTE]
  obtain ⟨_, z4, z2, z3⟩ := terms_chain hr h0
  obtain ⟨T, hT⟩ : ∃ T, T = (termsE rs c).1 := ⟨_, rfl⟩
  rw [← hT] at z2 z4 ⊢
  unfold followsP
  refine AW_loopW (maskG 52 [0, 1, 4, 13, 0, 0]) (fun (i : Nat) => [(23, .int .i64 i)]) (fun _ => H ++ [.cells [.str c.1.name, .bool c.1.var, .sl .none (encTs c.1.args), .sl .none (encL encSt c.2)]]) (fun i => i ≤ c.2.length ∧ ∀ j, j < i → decide (c.2.getD j (0, []) ∈ underP rs (T.getD j zeroT) st) = true) (fun i => c.2.length - i) 0 ⟨Nat.zero_le _, fun _ h => absurd h (by omega)⟩ (by simp only [push_cast, Nat.reduceAdd, Nat.reduceSub, Nat.reduceMul, Nat.reduceLT, Nat.reduceLeDiff, Nat.reduceEqDiff, Int.reduceToNat, ↓reduceIte]) (fun i hi => ?_)
  obtain ⟨hi1, hi2⟩ := hi
  simp only [push_cast, Nat.reduceAdd, Nat.reduceSub, Nat.reduceMul, Nat.reduceLT, Nat.reduceLeDiff, Nat.reduceEqDiff, Int.reduceToNat, ↓reduceIte]
  refine cI (fun h3 => ?_) (fun h3 => ?_)
  · have hil : i < c.2.length := by omega
    have hiT : i < T.length := by omega
    obtain ⟨s, hs⟩ : ∃ s, s = c.2[i]'hil := ⟨_, rfl⟩
    obtain ⟨u, hu⟩ : ∃ u, u = T[i]'hiT := ⟨_, rfl⟩
    have hsb := hc.2.2 _ (List.getElem_mem hil)
    have huc := z4 _ (List.getElem_mem hiT)
    have e1 : c.2.getD i (0, []) = s := by rw [hs]; simp [hil]
    have e2 : T.getD i zeroT = u := by rw [hu]; simp [hiT]
    refine ⟨hil, hiT, ?_⟩
    rw [← hs] at hsb ⊢
    rw [← hu] at huc ⊢
    have hus := check_small huc
    obtain ⟨w1, w2⟩ := under_lens hr huc st
    refine (redexesV_ac rs hr u huc st _).to ?_
    obtain ⟨L, hL⟩ : ∃ L, L = underP rs u st := ⟨_, rfl⟩
    rw [← hL] at w1 w2 ⊢
    simp only [push_cast, Nat.reduceAdd, Nat.reduceSub, Nat.reduceMul, Nat.reduceLT, Nat.reduceLeDiff, Nat.reduceEqDiff, Int.reduceToNat, ↓reduceIte]
    refine AW_loopW (maskG 52 [0, 1, 4, 2, 0, 9, 0, 0, 10, 0, 0]) (fun (j : Nat) => [(36, .int .i64 j), (11, .bool (decide (s ∈ L.take j)))]) (fun _ => H ++ [.cells [.str c.1.name, .bool c.1.var, .sl .none (encTs c.1.args), .sl .none (encL encSt c.2)], .cells [.int .i64 s.1, .sl .none (encP s.2)]]) (fun j => j ≤ L.length) (fun j => L.length - j) 0 (Nat.zero_le _) (by first | (simp only [push_cast, Nat.reduceAdd, Nat.reduceSub, Nat.reduceMul, Nat.reduceLT, Nat.reduceLeDiff, Nat.reduceEqDiff, Int.reduceToNat, ↓reduceIte, List.take_zero, List.not_mem_nil, decide_false]; done) | (simp only [push_cast, Nat.reduceAdd, Nat.reduceSub, Nat.reduceMul, Nat.reduceLT, Nat.reduceLeDiff, Nat.reduceEqDiff, Int.reduceToNat, ↓reduceIte, List.take_zero, List.not_mem_nil, decide_false]; trace_state)) (fun j hj => ?_)
    simp only [push_cast, Nat.reduceAdd, Nat.reduceSub, Nat.reduceMul, Nat.reduceLT, Nat.reduceLeDiff, Nat.reduceEqDiff, Int.reduceToNat, ↓reduceIte]
    refine cI (fun h5 => ?_) (fun h5 => ?_)
    · have hjl : j < L.length := by omega
      have hmt := mem_take_succ (s := s) hjl
      obtain ⟨x, hx⟩ : ∃ x, x = L[j]'hjl := ⟨_, rfl⟩
      have hxb := w2 _ (List.getElem_mem hjl)
      rw [← hx] at hmt hxb
      refine ⟨hjl, ?_⟩
      rw [← hx]
      refine cI (fun h6 => ?_) (fun h6 => ?_)
      · repeat' first | refine ⟨by omega, ?_⟩ | refine cI (fun _ => ?_) (fun _ => ?_)
        refine loopW_n (j + 1) (by omega) (by omega) ?_
        rw [hmt, decide_eq_true h6, Bool.true_or]
        simp only [push_cast, Nat.reduceAdd, Nat.reduceSub, Nat.reduceMul, Nat.reduceLT, Nat.reduceLeDiff, Nat.reduceEqDiff, Int.reduceToNat, ↓reduceIte]
      · have hss := fun X => sameSteps_ac [x] [s] (by simp) (by simp) (fun y hy => by rw [List.mem_singleton] at hy; rw [hy]; exact hxb) (fun y hy => by rw [List.mem_singleton] at hy; rw [hy]; exact hsb) X
        rw [show decide ([x] = [s]) = decide (x = s) from decide_eq_decide.2 ⟨fun e => by injection e, fun e => by rw [e]⟩] at hss
        refine (hss _).to ?_
        simp only [push_cast, Nat.reduceAdd, Nat.reduceSub, Nat.reduceMul, Nat.reduceLT, Nat.reduceLeDiff, Nat.reduceEqDiff, Int.reduceToNat, ↓reduceIte]
        repeat' first | refine ⟨by omega, ?_⟩ | refine cI (fun _ => ?_) (fun _ => ?_)
        refine loopW_n (j + 1) (by omega) (by omega) ?_
        rw [hmt, decide_eq_false h6, Bool.false_or]
        simp only [push_cast, Nat.reduceAdd, Nat.reduceSub, Nat.reduceMul, Nat.reduceLT, Nat.reduceLeDiff, Nat.reduceEqDiff, Int.reduceToNat, ↓reduceIte]
    · rw [List.take_of_length_le (show L.length ≤ j by omega)]
      refine cI (fun h4 => ?_) (fun h4 => ?_)
      · repeat' first | refine ⟨by omega, ?_⟩ | refine cI (fun _ => ?_) (fun _ => ?_)
        refine loopW_n (i + 1) ⟨by omega, fun k hk => ?_⟩ (by omega) (by simp only [push_cast, Nat.reduceAdd, Nat.reduceSub, Nat.reduceMul, Nat.reduceLT, Nat.reduceLeDiff, Nat.reduceEqDiff, Int.reduceToNat, ↓reduceIte])
        by_cases e : k = i
        · rw [e, e1, e2, ← hL]; exact h4
        · exact of_decide_eq_true (hi2 k (by omega))
      · rw [range_bad hil (by rw [e1, e2, ← hL]; exact decide_eq_false h4)]
  · rw [range_take hi2 (show c.2.length ≤ i by omega)]
theorem termsC_bad {rs : List (Term × Term)} {c : Term × List (Int × List Int)} (h : (termsC rs c).2 ≠ 0) : (termsC rs c).1 = [] := by
  have hrun : ∀ (l : List (Int × List Int)) (acc : List Term) (t : Term), (runF rs acc t l).2 ≠ 0 → (runF rs acc t l).1 = [] := by
    intro l
    induction l with
    | nil => intro acc t h; exact absurd rfl h
    | cons s l ih =>
      intro acc t h
      rw [runF] at h ⊢
      split
      · rfl
      · rename_i hd
        rw [if_neg hd] at h
        exact ih _ _ h
  unfold termsC termsE at h ⊢
  split
  · rfl
  · rename_i h1
    rw [if_neg h1] at h
    split
    · rfl
    · rename_i h2
      rw [if_neg h2] at h
      split
      · rfl
      · rename_i h3
        rw [if_neg h3] at h
        exact hrun _ _ _ h
theorem check_one (rs : List (Term × Term)) (c : Term × List (Int × List Int)) : checkCP rs [c] = (termsC rs c).2 := by
  unfold checkCP termsC
  split
  · rfl
  · simp only [firstC]
    split
    · rename_i h; exact h.symm
    · rfl
theorem isP_self (t : Term) (e : Int) (h : e = 0 ∨ t = zeroT) : isP t e t e = true := by
  unfold isP
  by_cases h0 : e = 0
  · simp [h0]
  · rcases h with h | h
    · exact absurd h h0
    · simp [h0, h]
theorem lastC_bad {rs : List (Term × Term)} {c : Term × List (Int × List Int)} (h : (termsC rs c).2 ≠ 0) : lastC rs c = (zeroT, (termsC rs c).2) := if_pos h
theorem followsC_bad {rs : List (Term × Term)} {c : Term × List (Int × List Int)} {st : Int} (h : (termsC rs c).2 ≠ 0) : followsC rs c st = (false, (termsC rs c).2) := if_pos h
set_option maxHeartbeats 4000000 in
theorem termsLaw_ac (rs : List (Term × Term)) (hlen : rs.length < 1099511627776) (hru : RuB rs) (c : Term × List (Int × List Int)) (hc : ChB c) (st : Int) (H : List AObj) :
    ACall Tryz.prog 3 [.sl .none (encL encRu rs), encCh c, .int .i64 st] H (fun r H' => r = .bool true ∧ H' = H) := by
  have hb : BndR rs := fun r hr => by have := hru r hr; omega
  have hck := fun X => checkC_ac rs hlen hru [c] (by simp) (fun x hx => by rw [List.mem_singleton] at hx; rw [hx]; exact hc) X
  rw [check_one] at hck
  refine ACall_V (H.length) 116 [.tmp 6] Tryz.func3 rfl rfl rfl ?_
  simp only [push_cast, Nat.reduceAdd, Nat.reduceSub, Nat.reduceMul, Nat.reduceLT, Nat.reduceLeDiff, Nat.reduceEqDiff, Int.reduceToNat, ↓reduceIte]
  refine (dterms_ac rs hlen hb c hc.1 hc.2.1 hc.2.2 _).to ?_
  simp only [push_cast, Nat.reduceAdd, Nat.reduceSub, Nat.reduceMul, Nat.reduceLT, Nat.reduceLeDiff, Nat.reduceEqDiff, Int.reduceToNat, ↓reduceIte, encTE]
  refine (dlast_ac rs hlen hb c hc.1 hc.2.1 hc.2.2 _).to ?_
  simp only [push_cast, Nat.reduceAdd, Nat.reduceSub, Nat.reduceMul, Nat.reduceLT, Nat.reduceLeDiff, Nat.reduceEqDiff, Int.reduceToNat, ↓reduceIte, encRE]
  refine (follows_ac rs hlen hb c hc st _).to ?_
  simp only [push_cast, Nat.reduceAdd, Nat.reduceSub, Nat.reduceMul, Nat.reduceLT, Nat.reduceLeDiff, Nat.reduceEqDiff, Int.reduceToNat, ↓reduceIte]
  refine (hck _).to ?_
  simp only [push_cast, Nat.reduceAdd, Nat.reduceSub, Nat.reduceMul, Nat.reduceLT, Nat.reduceLeDiff, Nat.reduceEqDiff, Int.reduceToNat, ↓reduceIte]
  refine cI (fun h => ?_) (fun h => ?_)
  · obtain ⟨_, zE, zT⟩ := termsC_zero h
    obtain ⟨z1, z2, z3, z4⟩ := termsC_spec h
    obtain ⟨pre, u, he, hp⟩ := termsC_ne h
    have hlc : lastC rs c = (u, 0) := by unfold lastC; rw [if_neg (by simpa using h), he]; simp
    have hfc : followsC rs c st = if st < 1 ∨ 5 < st then (false, 2) else (followsP rs (termsC rs c).1 c.2 st, 0) := if_neg (by simpa using h)
    refine (termsR_ac rs hru c hc.1 hc.2.1 hc.2.2 _).to ?_
    simp only [push_cast, Nat.reduceAdd, Nat.reduceSub, Nat.reduceMul, Nat.reduceLT, Nat.reduceLeDiff, Nat.reduceEqDiff, Int.reduceToNat, ↓reduceIte, encTE, hlc]
    have hfr := fun X => followsR_ac rs z1 hru c hc zE st X
    rw [← zT] at hfr ⊢
    obtain ⟨T, hT⟩ : ∃ T, T = (termsC rs c).1 := ⟨_, rfl⟩
    rw [← hT] at z2 z4 he hfr hfc ⊢
    have hTb : ∀ x, x ∈ T → x.bulk ≤ 1099511627775 := fun x hx => by have := check_small (z4 x hx); omega
    have hst := fun X => sameTerms_ac T T (by omega) (by omega) hTb hTb X
    rw [show decide (T = T) = true from decide_eq_true rfl] at hst
    have hub : u.bulk ≤ 1099511627775 := hTb u (by rw [he]; simp)
    have htm := fun X => term5_ac u 0 u 0 hub hub X
    rw [isP_self u 0 (.inl rfl)] at htm
    have hm : (T.length : Int) - 1 = ((pre.length : Nat) : Int) := by rw [he]; simp
    have hget : ∀ h, T[pre.length]'h = u := by intro h; simp only [he]; simp
    have hpl : pre.length < T.length := by rw [he]; simp
    have d0 : decide ((termsC rs c).2 = 0) = true := decide_eq_true h
    apply AW_drawE [some 74, some 75, some 76, some 77, some 78, some 79, some 80, some 81, some 82, some 83, some 84, some 85, some 86, some 87, some 88, some 89, some 90, some 91, some 92, some 93] [([], _)] [none, none, none, none, none, none, none, none, none, none, none, none, none, none, none, none, none, none, none, none] 0 [(0, [], [8]), (1, [], [74]), (2, [], [75]), (3, [], [7, 68]), (4, [], [14, 61]), (5, [], [76, 0, 0]), (6, [], [76, 2]), (7, [], [76, 3]), (8, [], [81]), (9, [], [9, 72]), (10, [], [10, 71]), (11, [], [14, 67]), (12, [], [14, 67]), (13, [], [82, 3]), (14, [], [82, 4]), (15, [], [82, 2, 2]), (16, [], [82, 6]), (17, [], [82, 0, 0, 5]), (18, [], [82, 8]), (19, [], [82, 9])] [_, _, _, _, _, _, _, _, _, _, _, _, _, _, _, _, _, _, _, _]
    case' hm => exact dr
    case' hn => rfl
    case' hok => rfl
    case' hlen => rfl
    case' hd => rfl
    case' h0 => rfl
    case' hstep =>
     simp only [DAllG, push_cast, Option.isSome_some, Option.isSome_none]
     repeat' apply And.intro
     all_goals (apply DOne_V; simp only [push_cast, Nat.reduceAdd, Nat.reduceSub, Nat.reduceMul, Nat.reduceLT, Nat.reduceLeDiff, Nat.reduceEqDiff, Int.reduceToNat, ↓reduceIte, d0, hm, hget, Bool.not_true] <;> first | exact rfl | omega | exact ⟨rfl, rfl⟩ | exact trivial | exact ⟨by omega, rfl⟩ | exact ⟨by omega, by omega, rfl⟩ | exact ⟨by omega, rfl, rfl⟩ | exact ⟨by omega, by omega, rfl, rfl⟩ | (refine (hst _).to ?_; exact ⟨rfl, rfl⟩) | exact ⟨⟨by omega, by omega⟩, trivial⟩ | exact ⟨⟨by omega, by omega⟩, rfl⟩ | exact ⟨by omega, trivial⟩ | exact ⟨hpl, rfl⟩ | exact ⟨hpl, trivial⟩ | (refine (htm _).to ?_; exact ⟨rfl, rfl⟩) | trace_state)
    case' hQ => skip
    simp only [push_cast, Nat.reduceAdd, Nat.reduceSub, Nat.reduceMul, Nat.reduceLT, Nat.reduceLeDiff, Nat.reduceEqDiff, Int.reduceToNat, ↓reduceIte]
    refine (strategy_ac5 st _).to ?_
    by_cases hs : st < 1 ∨ 5 < st
    · rw [if_pos hs] at hfc
      have hd : (decide (1 ≤ st) && decide (st ≤ 5)) = false := by
        rcases hs with hs | hs
        · rw [decide_eq_false (by omega)]; rfl
        · rw [decide_eq_false (show ¬ st ≤ 5 by omega), Bool.and_false]
      simp only [push_cast, Nat.reduceAdd, Nat.reduceSub, Nat.reduceMul, Nat.reduceLT, Nat.reduceLeDiff, Nat.reduceEqDiff, Int.reduceToNat, ↓reduceIte, hd, hfc]
      refine (alive5_ac _).to ?_
      simp only [push_cast, Nat.reduceAdd, Nat.reduceSub, Nat.reduceMul, Nat.reduceLT, Nat.reduceLeDiff, Nat.reduceEqDiff, Int.reduceToNat, ↓reduceIte]
    · rw [if_neg hs] at hfc
      have hd : (decide (1 ≤ st) && decide (st ≤ 5)) = true := by rw [decide_eq_true (by omega), decide_eq_true (by omega)]; rfl
      simp only [push_cast, Nat.reduceAdd, Nat.reduceSub, Nat.reduceMul, Nat.reduceLT, Nat.reduceLeDiff, Nat.reduceEqDiff, Int.reduceToNat, ↓reduceIte, hd, hfc]
      refine (hfr _).to ?_
      simp only [push_cast, Nat.reduceAdd, Nat.reduceSub, Nat.reduceMul, Nat.reduceLT, Nat.reduceLeDiff, Nat.reduceEqDiff, Int.reduceToNat, ↓reduceIte]
      refine cI (fun _ => ?_) (fun h => absurd (by simp) h)
      refine (alive5_ac _).to ?_
      simp only [push_cast, Nat.reduceAdd, Nat.reduceSub, Nat.reduceMul, Nat.reduceLT, Nat.reduceLeDiff, Nat.reduceEqDiff, Int.reduceToNat, ↓reduceIte]
  · rw [termsC_bad h, lastC_bad h, followsC_bad h]
    simp only [push_cast, Nat.reduceAdd, Nat.reduceSub, Nat.reduceMul, Nat.reduceLT, Nat.reduceLeDiff, Nat.reduceEqDiff, Int.reduceToNat, ↓reduceIte, encTs_nil]
    have htm := fun X => term5_ac zeroT (termsC rs c).2 zeroT (termsC rs c).2 (by simp [zeroT, Term.bulk_mk]) (by simp [zeroT, Term.bulk_mk]) X
    rw [isP_self zeroT _ (.inr rfl), show encT zeroT = .agg [.str [], .bool false, .sl .none []] from enc_c []] at htm
    refine (htm _).to ?_
    simp only [push_cast, Nat.reduceAdd, Nat.reduceSub, Nat.reduceMul, Nat.reduceLT, Nat.reduceLeDiff, Nat.reduceEqDiff, Int.reduceToNat, ↓reduceIte]
    refine (alive5_ac _).to ?_
    simp only [push_cast, Nat.reduceAdd, Nat.reduceSub, Nat.reduceMul, Nat.reduceLT, Nat.reduceLeDiff, Nat.reduceEqDiff, Int.reduceToNat, ↓reduceIte]
end Ab
set_option maxRecDepth 10000
namespace Go.Proofs.YtpgjcbeoipldgaaGreat
open Go Ab
namespace dte
theorem own : ownKnob Tryz.prog.godebug = none := by kernel_rfl
theorem laid : laidOutB Tryz.prog = true := by kernel_rfl
theorem readable : ∀ t, t ∈ Tryz.f3.params.toList → Tryz.prog.readableRec t = true ∧ t < Tryz.prog.types.size := by
  rw [Tryz.params3]; intro t ht
  simp only [List.mem_cons, List.not_mem_nil, or_false] at ht
  rcases ht with rfl | rfl | rfl <;> exact ⟨by kernel_rfl, of_decide_eq_true (by kernel_rfl)⟩
theorem closed : closedK Tryz.prog [22, 94, 25, 9, 4, 23, 28, 26, 86, 3, 48] = true := by kernel_rfl
theorem contract (H : Type) (enc : TypeId × Value → H) (W : World) (base : Nat) (args : Array Value) (ds gs : List (DataW H)) (before : List MemPlace)
    (hval : ∀ (j : Nat) t v, Tryz.f3.params[j]? = some t → args[j]? = some v → Value.okWide Tryz.prog W .any base t v)
    (hW : DataW.Whole enc Tryz.prog Tryz.f3.params.toList Rows.deriveTermsSpec.vars false W args.toList ds gs before) (hk : Rows.uptoSmall H (ds ++ gs) = true) :
    Calls Tryz.prog 3 args W fun e W' => ∃ v, e = .returned v ∧ Rows.deriveTermsSpec.post enc Tryz.prog Tryz.f3 false true false false W args v W' := by
  have hW' := hW
  obtain ⟨p, q, hA0, hV, rfl, hfz, hnd⟩ := hW
  have hA : DataW.TrodAll enc Tryz.prog W 0 (fun _ => true) true Tryz.f3.params.toList args.toList ds p := hA0
  rw [Tryz.params3] at hA hval
  obtain ⟨v0, vs0, d0, ds0, p0, q0, hargs, rfl, rfl, h0, r0⟩ := ChangeShapes.trodAll_cons hA
  obtain ⟨v1, vs1, d1, ds1, p1, q1, rfl, rfl, rfl, h1, r1⟩ := ChangeShapes.trodAll_cons r0
  obtain ⟨v2, vs2, d2, ds2, p2, q2, rfl, rfl, rfl, h2, r2⟩ := ChangeShapes.trodAll_cons r1
  obtain ⟨rfl, rfl, rfl⟩ := ChangeShapes.trodAll_nil r2
  obtain rfl : args = #[v0, v1, v2] := by cases args; simp_all
  have hg : gs = [] := by cases gs with | nil => rfl | cons _ _ => exact hV.elim
  subst hg
  have hb : Rows.uptoBulk d0 + Rows.uptoBulk d1 + Rows.uptoBulk d2 ≤ 1048576 := by
    have := of_decide_eq_true hk
    simp only [List.cons_append, List.nil_append, List.append_nil, Rows.uptoBulkAll] at this
    omega
  obtain ⟨n0, a0, e0, x0⟩ := arg_slice closed (by decide) Tryz.underlying22 (hval 0 _ v0 rfl rfl) h0
  obtain ⟨n1, a1, e1, x1⟩ := arg_struct closed (by decide) Tryz.underlying28 (hval 1 _ v1 rfl rfl) h1
  obtain ⟨n2, a2, e2, x2⟩ := arg_scalar closed (by decide) Tryz.underlying3 (hval 2 _ v2 rfl rfl) h2
  obtain ⟨rs, f0, b0, c0⟩ := rules_form n0 d0 [a0] e0
  obtain ⟨c, f1, b1, l1, c1⟩ := chain_form n1 d1 a1 e1
  obtain ⟨st, rfl, f2⟩ := toAV_int kdInt e2
  try simp only [List.cons.injEq, and_true] at f0
  try simp only [List.cons.injEq, and_true] at f2
  rw [f0] at x0; rw [f1] at x1; rw [f2] at x2
  have hc := law_calls (args := #[v0, v1, v2]) (avs := [.sl .none (encL encRu rs), encCh c, .int .i64 st]) (W := W) (termsLaw_ac rs (by omega) (fun r hr => by have := c0 r hr; omega) c ⟨by omega, by omega, fun x hx => by have := c1 x hx; omega⟩ st []) (fun h => by simp [tabOn] at h) rfl (fun i hi hi' => by
    match i, hi with
    | 0, _ => exact x0
    | 1, _ => exact x1
    | 2, _ => exact x2)
  refine hc.mono fun e W' ⟨he, hbl⟩ => ?_
  subst he
  exact ⟨_, rfl, post_law rfl ⟨rfl, rfl, rfl⟩ hW' hbl rfl Tryz.underlying4 laid readable⟩
set_option maxRecDepth 100000 in
theorem lifted (os : Os) (started : os.Started) (H : Type) (enc : TypeId × Value → H) (F : Stop.Interp) :
    ReturnsInHanded {} Tryz.checked os 3 .any ((Rows.OpenSpec.upto Rows.deriveTermsSpec).pre6 enc Tryz.prog Tryz.f3 Rows.deriveTermsUptoRow.domain false) (((Rows.OpenSpec.upto Rows.deriveTermsSpec).at F).post enc Tryz.prog Tryz.f3 false true false false) := by
  refine returnsInHanded_of_cond (C := Tryz.checked) (s := Rows.OpenSpec.upto Rows.deriveTermsSpec) (k := Rows.uptoSmall) rfl own started (by kernel_rfl) Tryz.func3
    (OpenSpec.witness (enc := enc) (C := Tryz.checked) (s := Rows.OpenSpec.upto Rows.deriveTermsSpec) (k := Rows.uptoSmall) rfl false
      ⟨#[], #[.slice none 0 0, .agg #[.string ⟨#[]⟩, .bool false, .slice none 0 0, .slice none 0 0], .int .i64 0], []⟩ 8 (by kernel_rfl) (by kernel_rfl) (by kernel_rfl)
      (x := ([.nil, .agg [.agg [.lit (.string []), .lit (.bool false), .nil], .nil], .lit (.int .i64 0)], [], [])) (by kernel_rfl) rfl (by kernel_rfl)) ?_
  intro W base args ds gs before hval hW _ hk _
  exact contract H enc W base args ds gs before hval hW hk
theorem over : Rows.deriveTermsUptoRow.holds Tryz.pinned (Rows.OpenSpec.upto Rows.deriveTermsSpec) :=
  OpenClaim.holds_of_cond 3 Tryz.f3 rfl rfl rfl rfl rfl rfl rfl ⟨rfl, rfl, rfl, rfl, rfl⟩ rfl rfl rfl rfl rfl (by kernel_rfl) Tryz.func3 (by kernel_rfl)
    (of_decide_eq_true (by kernel_rfl)) (by unfold Func.isWrapper; first | (rw [if_pos (by decide +kernel)]; kernel_rfl) | (rw [if_neg (by decide +kernel)]; exact ⟨rfl, rfl⟩))
    (fun os started H enc _ F => lifted os started H enc F)
end dte
theorem deriveTerms_upto : Rows.DeriveTermsUptoSaid := dte.over
end Go.Proofs.YtpgjcbeoipldgaaGreat
