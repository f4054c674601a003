/- Part 4 of 5 of a proof. Performing steps at parallel positions one after the other, in any order, has the same result as performing them at once, unless an intermediate term is too large. -/
import Derived.Test.YtgbmjnpbojcbdaaGreatRd3
import Derived.Shelf.Spec.SlicesInsertGrow
import Derived.Shelf.SlSortCmp.WholeK
import Derived.Shelf.SlSortCmp.NoneTotal
import Derived.Shelf.Small.Strs
import Derived.Test.YtgbmjnpbojcbdaaGreatProg
set_option linter.unusedVariables false
set_option linter.unusedSimpArgs false
set_option maxRecDepth 10000
namespace Ab
open Go Go.Proofs
@[reducible] def encRu (r : Term × Term) : AV := .agg [.str r.1.name, .bool r.1.var, .sl .none (encTs r.1.args), .str r.2.name, .bool r.2.var, .sl .none (encTs r.2.args)]
theorem uniRu (l : List (Term × Term)) : Uni (5 + 1) (encL encRu l) = True := eq_true (uni_encL (enc := encRu) (k := 6) (fun _ => rfl) l)
theorem scRu_ (n : Nat) (l : List (Term × Term)) : ScopedL n (encL encRu l) = True := eq_true (scoped_encL (fun x => by simp [Scoped, ScopedL, scoped_encTs]) l)
attribute [push_cast] uniRu scRu_
theorem firstErr_app : ∀ a b : List Term, firstErr (a ++ b) = if firstErr a = 0 then firstErr b else firstErr a
  | [], b => by simp [firstErr]
  | t :: a, b => by
    have ih := firstErr_app a b
    rw [List.cons_append, firstErr, firstErr, ih]
    by_cases h : checkP t = 0 <;> simp [h]
theorem firstErr_at (ts : List Term) (i : Nat) (h : i < ts.length) (h0 : firstErr (ts.take i) = 0) (he : ¬ checkP ts[i] = 0) : firstErr ts = checkP ts[i] := by
  rw [firstErr_drop _ i h0, List.drop_eq_getElem_cons h]
  simp only [firstErr, he, if_false]
theorem all_ac (ts : List Term) (hlen : ts.length < 1099511627776) (hb : ∀ t, t ∈ ts → t.bulk ≤ 1099511627775) (H : List AObj) : ACall Tryz.prog 133 [.sl .none (encTs ts)] H (fun r H' => r = .int .i64 (firstErr ts) ∧ H' = H) := by
  refine ACall_V (H.length) 17 [.tmp 2] Tryz.func133 rfl rfl rfl ?_
  simp only [push_cast, Nat.reduceAdd, Nat.reduceSub, Nat.reduceMul, Nat.reduceLT, Nat.reduceLeDiff, Nat.reduceEqDiff, Int.reduceToNat, ↓reduceIte]
  refine AW_loopW (maskG 18 [6, 0, 0]) (fun (j : Nat) => [(8, .int .i64 j)]) (fun _ => H) (fun j => j ≤ ts.length ∧ firstErr (ts.take j) = 0) (fun j => ts.length - j) 0 ⟨Nat.zero_le _, rfl⟩ (by simp only [push_cast, Nat.reduceAdd, Nat.reduceSub, Nat.reduceMul, Nat.reduceLT, Nat.reduceLeDiff, Nat.reduceEqDiff, Int.reduceToNat, ↓reduceIte]) (fun j hj => ?_)
  simp only [push_cast, Nat.reduceAdd, Nat.reduceSub, Nat.reduceMul, Nat.reduceLT, Nat.reduceLeDiff, Nat.reduceEqDiff, Int.reduceToNat, ↓reduceIte]
  refine cI (fun h2 => ?_) (fun h2 => ?_)
  · repeat refine ⟨by omega, ?_⟩
    have hjl : j < ts.length := by omega
    refine (check_ac (ts[j]'hjl) (hb _ (List.getElem_mem hjl)) _).to ?_
    simp only [push_cast, Nat.reduceAdd, Nat.reduceSub, Nat.reduceMul, Nat.reduceLT, Nat.reduceLeDiff, Nat.reduceEqDiff, Int.reduceToNat, ↓reduceIte]
    refine cI (fun he => ?_) (fun he => ?_)
    · repeat' first | refine ⟨by omega, ?_⟩ | refine cI (fun _ => ?_) (fun _ => ?_)
      exact loopW_n (j + 1) ⟨by omega, firstErr_take _ j hjl hj.2 he⟩ (by omega) (by simp only [push_cast, Nat.reduceAdd, Nat.reduceSub, Nat.reduceMul, Nat.reduceLT, Nat.reduceLeDiff, Nat.reduceEqDiff, Int.reduceToNat, ↓reduceIte])
    · simp only [push_cast, Nat.reduceAdd, Nat.reduceSub, Nat.reduceMul, Nat.reduceLT, Nat.reduceLeDiff, Nat.reduceEqDiff, Int.reduceToNat, ↓reduceIte, firstErr_at ts j hjl hj.2 he]
  · have e := hj.2
    rw [List.take_of_length_le (by omega)] at e
    simp only [push_cast, Nat.reduceAdd, Nat.reduceSub, Nat.reduceMul, Nat.reduceLT, Nat.reduceLeDiff, Nat.reduceEqDiff, Int.reduceToNat, ↓reduceIte, e]
def rT (rs : List (Term × Term)) : List Term := rs.flatMap fun r => [r.1, r.2]
theorem rT_take (rs : List (Term × Term)) (i : Nat) (h : i < rs.length) : rT (rs.take (i + 1)) = rT (rs.take i) ++ [rs[i].1, rs[i].2] := by
  unfold rT; rw [List.take_succ_eq_append_getElem h, List.flatMap_append]; simp
theorem rT_split (rs : List (Term × Term)) (i : Nat) (h : i < rs.length) : rT rs = rT (rs.take i) ++ ([rs[i].1, rs[i].2] ++ rT (rs.drop (i + 1))) := by
  have : rs = rs.take i ++ (rs[i] :: rs.drop (i + 1)) := by rw [← List.drop_eq_getElem_cons h, List.take_append_drop]
  have h2 := congrArg rT this
  rw [h2]
  unfold rT; rw [List.flatMap_append, List.flatMap_cons]
theorem mem_rT {rs : List (Term × Term)} {t : Term} : t ∈ rT rs ↔ ∃ r, r ∈ rs ∧ (t = r.1 ∨ t = r.2) := by
  unfold rT; rw [List.mem_flatMap]
  constructor
  · rintro ⟨r, hr, h⟩; simp at h; exact ⟨r, hr, h⟩
  · rintro ⟨r, hr, h⟩; exact ⟨r, hr, by simp; exact h⟩
def rulesP (rs : List (Term × Term)) : Int := if rs.length > 64 then 3 else firstErr (rT rs)
theorem checkRules_ac (rs : List (Term × Term)) (hlen : rs.length < 1099511627776) (hb : ∀ r, r ∈ rs → r.1.bulk ≤ 1099511627775 ∧ r.2.bulk ≤ 1099511627775) (H : List AObj) : ACall Tryz.prog 101 [.sl .none (encL encRu rs)] H (fun r H' => r = .int .i64 (rulesP rs) ∧ H' = H) := by
  refine ACall_V (H.length) 24 [.tmp 2] Tryz.func101 rfl rfl rfl ?_
  simp only [push_cast, Nat.reduceAdd, Nat.reduceSub, Nat.reduceMul, Nat.reduceLT, Nat.reduceLeDiff, Nat.reduceEqDiff, Int.reduceToNat, ↓reduceIte]
  refine cI (fun h0 => ?_) (fun h0 => ?_)
  · have e : rulesP rs = 3 := by unfold rulesP; rw [if_pos (by omega)]
    simp only [push_cast, Nat.reduceAdd, Nat.reduceSub, Nat.reduceMul, Nat.reduceLT, Nat.reduceLeDiff, Nat.reduceEqDiff, Int.reduceToNat, ↓reduceIte, e]
  · have hP : rulesP rs = firstErr (rT rs) := by unfold rulesP; rw [if_neg (by omega)]
    refine AW_loopW (maskG 25 [9, 0, 0]) (fun (i : Nat) => [(11, .int .i64 i)]) (fun _ => H) (fun i => i ≤ rs.length ∧ firstErr (rT (rs.take i)) = 0) (fun i => rs.length - i) 0 ⟨Nat.zero_le _, rfl⟩ (by simp only [push_cast, Nat.reduceAdd, Nat.reduceSub, Nat.reduceMul, Nat.reduceLT, Nat.reduceLeDiff, Nat.reduceEqDiff, Int.reduceToNat, ↓reduceIte]) (fun i hi => ?_)
    simp only [push_cast, Nat.reduceAdd, Nat.reduceSub, Nat.reduceMul, Nat.reduceLT, Nat.reduceLeDiff, Nat.reduceEqDiff, Int.reduceToNat, ↓reduceIte]
    refine cI (fun h => ?_) (fun h => ?_)
    · repeat refine ⟨by omega, ?_⟩
      have hil : i < rs.length := by omega
      have hbi := hb _ (List.getElem_mem hil)
      have hal := fun H => all_ac [(rs[i]'hil).1, (rs[i]'hil).2] (by simp) (by intro t ht; simp at ht; rcases ht with rfl | rfl; exact hbi.1; exact hbi.2) H
      rw [encTs_cons, encTs_cons, encTs_nil] at hal
      refine (hal _).to ?_
      simp only [push_cast, Nat.reduceAdd, Nat.reduceSub, Nat.reduceMul, Nat.reduceLT, Nat.reduceLeDiff, Nat.reduceEqDiff, Int.reduceToNat, ↓reduceIte]
      refine cI (fun he => ?_) (fun he => ?_)
      · repeat' first | refine ⟨by omega, ?_⟩ | refine cI (fun _ => ?_) (fun _ => ?_)
        refine loopW_n (i + 1) ⟨by omega, ?_⟩ (by omega) (by simp only [push_cast, Nat.reduceAdd, Nat.reduceSub, Nat.reduceMul, Nat.reduceLT, Nat.reduceLeDiff, Nat.reduceEqDiff, Int.reduceToNat, ↓reduceIte])
        rw [rT_take rs i hil, firstErr_app, if_pos hi.2]; exact he
      · have e : firstErr (rT rs) = firstErr [(rs[i]'hil).1, (rs[i]'hil).2] := by
          rw [rT_split rs i hil, firstErr_app, if_pos hi.2, firstErr_app, if_neg he]
        simp only [push_cast, Nat.reduceAdd, Nat.reduceSub, Nat.reduceMul, Nat.reduceLT, Nat.reduceLeDiff, Nat.reduceEqDiff, Int.reduceToNat, ↓reduceIte, hP, e]
    · have e := hi.2
      rw [List.take_of_length_le (by omega)] at e
      simp only [push_cast, Nat.reduceAdd, Nat.reduceSub, Nat.reduceMul, Nat.reduceLT, Nat.reduceLeDiff, Nat.reduceEqDiff, Int.reduceToNat, ↓reduceIte, hP, e]
end Ab
set_option maxRecDepth 10000
namespace Ab
open Go Go.Proofs Go.Proofs.YtgbmjnpbojcbdaaGreat
section
variable {H : Type}
theorem kdRule : kindOf Tryz.prog 80 = .struct [25, 25] := by kernel_rfl
theorem kdRules : kindOf Tryz.prog 22 = .slice 80 := by kernel_rfl
theorem agRule : aggK Tryz.prog 80 = true := by unfold aggK; rw [kdRule]
theorem len_sum {α : Type} (f : α → Nat) (xs : List α) {k : Nat} (h : (xs.map fun x => f x + 1).sum ≤ k) : xs.length ≤ k ∧ ∀ x, x ∈ xs → f x ≤ k := by
  induction xs generalizing k with
  | nil => simp
  | cons a r ih =>
    simp only [List.map_cons, List.sum_cons] at h
    obtain ⟨h1, h2⟩ := ih (k := k - (f a + 1)) (by omega)
    refine ⟨by simp; omega, fun x hx => ?_⟩
    rcases List.mem_cons.1 hx with rfl | hx
    · omega
    · have := h2 x hx; omega
theorem rule_form (n : Nat) (d : DataW H) (avs : List AV) (h : toAV Tryz.prog n 80 d = some avs) : ∃ r : Term × Term, .agg avs = encRu r ∧ r.1.bulk + r.2.bulk + 1 ≤ Rows.uptoBulk d := by
  obtain ⟨m, parts, avss, rfl, rfl, hl, hm, rfl⟩ := toAV_struct kdRule h
  match parts, hl, hm with
  | [d1, d2], _, hm =>
    obtain ⟨h1, h2⟩ := mapM_get hm
    match avss, h1, h2 with
    | [a1, a2], _, h2 =>
      obtain ⟨a, e1, b1⟩ := term_form m d1 a1 (h2 0 (by simp) (by simp))
      obtain ⟨b, e2, b2⟩ := term_form m d2 a2 (h2 1 (by simp) (by simp))
      injection e1 with e1; injection e2 with e2
      subst e1; subst e2
      exact ⟨(a, b), by simp, by simp only [Rows.uptoBulk, Rows.uptoBulkAll]; omega⟩
theorem rules_form (n : Nat) (d : DataW H) (avs : List AV) (h : toAV Tryz.prog n 22 d = some avs) : ∃ rs : List (Term × Term), avs = [.sl .none (encL encRu rs)] ∧ rs.length ≤ Rows.uptoBulk d ∧ ∀ r, r ∈ rs → r.1.bulk + r.2.bulk ≤ Rows.uptoBulk d := by
  obtain ⟨xs, ds, e3, hw, _, hd⟩ := row_form (fun r : Term × Term => encRu r) (fun r => r.1.bulk + r.2.bulk + 1) Rows.uptoBulk kdRules (n := n) (fun k d avs _ he => by
    obtain ⟨t, x1, x2⟩ := rule_form k d avs he
    exact ⟨t, by rw [agRule]; exact x1, x2⟩) h
  have hb := bulk_row hd
  have := len_sum (fun r : Term × Term => r.1.bulk + r.2.bulk) xs (k := Rows.uptoBulk d) (by omega)
  exact ⟨xs, e3, this.1, this.2⟩
end
end Ab
set_option maxRecDepth 10000
set_option linter.unusedVariables false
set_option linter.unusedSimpArgs false
namespace Go.Proofs
open Go.Shelf Go.RowKit Go.Lib Ab
theorem overlaps_no {P : Program} (w : World) (tS tR e : TypeId) (ht : P.underlying tS = some (.slice e)) (size : Nat) (hz : ∀ w, (Go.sizeOf e).run P w = .ok size w)
    (a b : Addr) (la ca lb cb : Nat) (hne : a.block ≠ b.block) (tA tB : TypeId) (kA kB : Nat)
    (hsa : w.shape? a.block = some (tA, kA)) (hkA : kA ≠ 0) (hsb : w.shape? b.block = some (tB, kB)) (hkB : kB ≠ 0)
    (hfb : w.frozen? b = false) (hfe : w.frozen? { block := b.block, off := kB } = false) :
    (Extern.SlicesOverlaps.overlaps #[tS, tS] #[tR] #[.slice (some a) la ca, .slice (some b) lb cb]).run P w = .ok (.bool false) w := by
  have hnb : (a.block != b.block) = true := by simpa using hne
  have hnb' : (a.block == b.block) = false := by simpa using hne
  change Sem.run P (α := Value) (do
    let some t := (#[tS, tS] : Array TypeId)[0]? | stuck "slices.overlaps: no parameter types"
    let .slice elem ← underlying t | stuck "slices.overlaps: slice type expected"
    let size ← sizeOf elem
    match (some a : Option Addr), (some b : Option Addr) with
    | some a, some b =>
      if la = 0 ∨ lb = 0 ∨ size = 0 then pure (Value.bool false)
      else if a.block != b.block && (← frozen a) && (← frozen b) then unsupported .addressObserved
      else do
        if a.block != b.block then do
          noView a; noView b
          if ← mayBeOne a b then return Value.bool ((← choose (.extern "sameAddr.stringBytes" 2)) == 1)
        pure (Value.bool (a.block == b.block && a.off < b.off + lb * size && b.off < a.off + la * size))
    | _, _ => pure (Value.bool false)) w = _
  by_cases h0 : la = 0 ∨ lb = 0 ∨ size = 0
  · simp [run_underlying ht, hz, h0]
  · cases kB with
    | zero => exact absurd rfl hkB
    | succ kB =>
      cases kA with
      | zero => exact absurd rfl hkA
      | succ kA =>
        cases hfa : w.frozen? a with
        | true => simp [run_underlying ht, hz, h0, hnb, hnb', frozen, noView, viewAt, mayBeOne, stringish, shape, Sem.run, hsa, hsb, hfa, hfb, hfe]
        | false =>
          cases hfA : w.frozen? { block := a.block, off := kA + 1 } with
          | true => simp [run_underlying ht, hz, h0, hnb, hnb', frozen, noView, viewAt, mayBeOne, stringish, shape, Sem.run, hsa, hsb, hfa, hfb, hfe, hfA]
          | false => simp [run_underlying ht, hz, h0, hnb, hnb', frozen, noView, viewAt, mayBeOne, stringish, shape, Sem.run, hsa, hsb, hfa, hfb, hfe, hfA]
theorem run_copy_k {P : Program} (w : World) (dT sT ty elem : TypeId) (k : Nat) (b o dLen dCap : Nat) (a : Addr) (sLen sCap : Nat) (cs : List Value)
    (hu : P.underlying dT = some (.slice elem)) (hs : (P.info? elem).map (·.size) = some k) (hn : cs.length = Nat.min sLen dLen * k)
    (hsrc : ∀ j v, cs[j]? = some v → w.cell? (a.add j) = some v) (hc : ∀ j, j < cs.length → (w.cell? ⟨b, o + j, none⟩).isSome = true) (hf : ∀ j, j < cs.length → w.frozen? ⟨b, o + j, none⟩ = false) (h1 : ∀ v ∈ cs, v.oneCell' = true) :
    (Builtin.copy_ #[dT, sT] ty #[.slice (some ⟨b, o, none⟩) dLen dCap, .slice (some a) sLen sCap]).run P w = .ok (goInt (Nat.min sLen dLen)) (w.setCells b o cs) := by
  have hl := run_loadCells_list (P := P) w a cs hsrc
  have hst := run_storeCells_cells (P := P) b o cs 0 w (by simpa using hc) (by simpa using hf) h1
  cases hq : P.info? elem with
  | none => simp [hq] at hs
  | some i =>
    have hi : i.size = k := by simpa [hq] using hs
    simp [Builtin.copy_, run_underlying hu, Builtin.lenOf, Builtin.firstCells, sizeOf, typeInfo, hq, hi, ← hn, hl, hst]
set_option maxHeartbeats 4000000 in
set_option maxRecDepth 100000 in
theorem Tryz.insShift (b n c i vb voff vc : Nat) (cs vs : List Value) (w : World) (hi : i < n) (hroom : n + 1 ≤ c) (hc63 : c ≤ 9223372036854775807) (hvb : vb ≠ b)
    (hcl : cs.length = n * 4) (hvl : vs.length = 4)
    (hcs : ∀ j v, cs[j]? = some v → w.cell? ⟨b, j, none⟩ = some v) (hsp : ∀ j, j < (n + 1) * 4 → (w.cell? ⟨b, j, none⟩).isSome = true) (hfz : ∀ j, w.frozen? ⟨b, j, none⟩ = false)
    (hvs : ∀ j v, vs[j]? = some v → w.cell? ⟨vb, voff + j, none⟩ = some v) (h1c : ∀ v ∈ cs, v.oneCell' = true) (h1v : ∀ v ∈ vs, v.oneCell' = true)
    (tA tB : TypeId) (kA kB : Nat) (hsa : w.shape? vb = some (tA, kA)) (hkA : kA ≠ 0) (hsb : w.shape? b = some (tB, kB)) (hkB : kB ≠ 0) :
    Calls Tryz.prog 164 #[.slice (some ⟨b, 0, none⟩) n c, .int .i64 i, .slice (some ⟨vb, voff, none⟩) 1 vc] w fun e w' =>
      e = .returned (.slice (some ⟨b, 0, none⟩) (n + 1) c) ∧ w' = (w.drew.setCells b ((i + 1) * 4) (cs.drop (i * 4))).setCells b (i * 4) vs := by
  have mixed := dr
  have hz2 : ¬ ((i : Int) = (n : Int)) := by omega
  have hsz : (Tryz.prog.info? 86).map (·.size) = some 4 := sz86
  have hov : ∀ lb cb, (callFunc 169 #[.slice (some ⟨vb, voff, none⟩) 1 vc, .slice (some ⟨b, (i + 1) * 4, none⟩) lb cb]).run Tryz.prog w = .ok (.value (.bool false)) w := fun lb cb => by
    rw [run_callFunc_extern Tryz.func169 (by kernel_rfl) (by kernel_rfl) (by kernel_rfl) (e := Extern.SlicesOverlaps.overlaps #[49, 49] #[4]) (by kernel_rfl),
      overlaps_no w 49 4 86 Tryz.underlying49 4 Tryz.sizeOf86 ⟨vb, voff, none⟩ ⟨b, (i + 1) * 4, none⟩ 1 vc lb cb hvb tA tB kA kB hsa hkA hsb hkB (hfz _) (hfz _)]
    rfl
  have hdl : (cs.drop (i * 4)).length = (n - i) * 4 := by rw [List.length_drop, hcl, Nat.sub_mul]
  have hsz1 : ∀ j, j < (cs.drop (i * 4)).length → (i + 1) * 4 + j < (n + 1) * 4 := fun j hj => by rw [hdl] at hj; omega
  have hw1 : IntKind.i64.wrap ((i : Int) + 1) = (i : Int) + 1 := by rw [IntKind.wrap_i64]; omega
  have hw2 : IntKind.i64.wrap ((n : Int) + 1) = (n : Int) + 1 := by rw [IntKind.wrap_i64]; omega
  have hb1 : (0 : Int) ≤ (i : Int) + 1 := by omega
  have hin : i ≤ n := by omega
  have htn : ((i : Int) + 1).toNat = i + 1 := by omega
  have htn2 : ((n : Int) + 1).toNat = n + 1 := by omega
  have hb2 : ¬ (c = i + 1) := by omega
  have hb3 : (i : Int) ≤ (n : Int) + 1 := by omega
  have hb4 : ¬ (c = i) := by omega
  have hb5 : ¬ ((c : Int) < (n : Int) + 1) := by omega
  have hb6 : n + 1 - (i + 1) = n - i := by omega
  have hmin1 : Nat.min (n + 1 - i) (n - i) = n - i := by simp only [Nat.min_def]; split <;> omega
  have hmin2 : Nat.min 1 (n + 1 - i) = 1 := by simp only [Nat.min_def]; split <;> omega
  have hcp1 : ∀ ty dc sc, (Builtin.copy_ #[49, 49] ty #[.slice (some ⟨b, (i + 1) * 4, none⟩) (n - i) dc, .slice (some ⟨b, i * 4, none⟩) (n + 1 - i) sc]).run Tryz.prog w.drew = .ok (goInt (n - i : Nat)) (w.drew.setCells b ((i + 1) * 4) (cs.drop (i * 4))) := fun ty dc sc => by
    have := run_copy_k (P := Tryz.prog) w.drew 49 49 ty 86 4 b ((i + 1) * 4) (n - i) dc ⟨b, i * 4, none⟩ (n + 1 - i) sc (cs.drop (i * 4)) Tryz.underlying49 hsz (by rw [hdl, hmin1])
      (fun j v hj => by rw [Addr.add_lit]; exact hcs (i * 4 + j) v (by rwa [List.getElem?_drop] at hj))
      (fun j hj => hsp _ (hsz1 j hj)) (fun j hj => hfz _) (fun v hv => h1c v (List.mem_of_mem_drop hv))
    rw [hmin1] at this
    exact this
  obtain ⟨W1, hW1⟩ : ∃ W1, W1 = w.drew.setCells b ((i + 1) * 4) (cs.drop (i * 4)) := ⟨_, rfl⟩
  have hsp1 : ∀ k, k < (n + 1) * 4 → (W1.cell? ⟨b, k, none⟩).isSome = true := fun k hk => by
    rw [hW1]
    exact isSome_setCells b _ _ w.drew (fun j hj => hsp _ (hsz1 j hj)) _ (hsp k hk)
  have hcp2 : ∀ (W : World), (∀ x, W.cell? x = W1.cell? x) → (∀ x, W.frozen? x = W1.frozen? x) → ∀ ty dc, (Builtin.copy_ #[49, 49] ty #[.slice (some ⟨b, i * 4, none⟩) (n + 1 - i) dc, .slice (some ⟨vb, voff, none⟩) 1 vc]).run Tryz.prog W = .ok (goInt (1 : Nat)) (W.setCells b (i * 4) vs) := fun W hWc hWf ty dc => by
    have := run_copy_k (P := Tryz.prog) W 49 49 ty 86 4 b (i * 4) (n + 1 - i) dc ⟨vb, voff, none⟩ 1 vc vs Tryz.underlying49 hsz (by rw [hvl, hmin2])
      (fun j v hj => by
        rw [Addr.add_lit, hWc, hW1, World.cell?_setCells_out b _ _ _ _ (fun h _ => absurd h hvb)]
        exact hvs j v hj)
      (fun j hj => by rw [hWc]; exact hsp1 _ (by omega)) (fun j hj => by rw [hWf, hW1, World.frozen?_setCells]; exact hfz _) h1v
    rw [hmin2] at this
    exact this
  rw [← hW1] at hcp1
  go_enter Tryz.func164, Tryz.ntmps164
  go_wp2_with (simp only [hov])
  go_region_law_o (refine step_copy_runI rfl _ _ 49 49 rfl _ _ (by simp [Act.eval, Act.put]) (by simp [Act.eval, Act.put]) (hcp1 _ _ _) ?_)
  go_wp2_with (at_builtin; refine wpList_copy_runI _ rfl _ _ 49 49 rfl _ _ rfl rfl (hcp2 _ (fun _ => rfl) (fun _ => rfl) _ _) ?_)
  go_ret
  first | exact ⟨rfl, rfl⟩ | exact ⟨rfl, by rw [hW1]⟩
set_option maxHeartbeats 4000000 in
set_option maxRecDepth 100000 in
theorem Tryz.insGrow (b n c i vb voff vc : Nat) (cs vs : List Value) (w : World) (zs : Array Value) (hi : i < n) (hnc : n ≤ c) (hroom : c < n + 1) (hbig : (n + 1) * 64 ≤ 140737488355328)
    (hcl : cs.length = n * 4) (hvl : vs.length = 4)
    (hcs : ∀ j v, cs[j]? = some v → w.cell? ⟨b, j, none⟩ = some v)
    (hvs : ∀ j v, vs[j]? = some v → w.cell? ⟨vb, voff + j, none⟩ = some v) (h1c : ∀ v ∈ cs, v.oneCell' = true) (h1v : ∀ v ∈ vs, v.oneCell' = true) :
    Calls Tryz.prog 164 #[.slice (some ⟨b, 0, none⟩) n c, .int .i64 i, .slice (some ⟨vb, voff, none⟩) 1 vc] w fun e w' =>
      ∃ (G : Nat) (z : Array Value), n + 1 ≤ G ∧ G ≤ maxLen ∧ z.size = 4 ∧ e = .returned (.slice (some ⟨w.heap.size, 0, none⟩) (n + 1) G) ∧
      w' = (((w.alloc (.cells ((cs.take (i * 4)).toArray ++ Builtin.zeroCells z (n + 1 - i) ++ Builtin.zeroCells z (G - (n + 1))) 86)).drew.setCells w.heap.size (i * 4) vs).drew).setCells w.heap.size ((i + 1) * 4) (cs.drop (i * 4)) := by
  have mixed := dr
  obtain ⟨i0, z0, hi0, hzs, hzb, hz0, hzc⟩ := info_of sz86 by86 zr86
  have hz2 : ¬ ((i : Int) = (n : Int)) := by omega
  have hz3 : (c : Int) < (n : Int) + 1 := by omega
  have hsz : (Tryz.prog.info? 86).map (·.size) = some 4 := sz86
  have hbw : b < w.heap.size := block_lt_of_cell (hcs 0 _ (List.getElem?_eq_getElem (by omega)))
  have hvw : vb < w.heap.size := block_lt_of_cell (hvs 0 _ (List.getElem?_eq_getElem (by omega)))
  have hkk : (n : Int) + 1 - (i : Int) = ((n + 1 - i : Nat) : Int) := by omega
  have hik : i + (n + 1 - i) = n + 1 := by omega
  have htl : (cs.take (i * 4)).length = i * 4 := by rw [List.length_take, hcl]; omega
  have hold : (Builtin.firstCells i0.size i (.slice (some ⟨b, 0, none⟩) i c)).run Tryz.prog w.drew = .ok (cs.take (i * 4)).toArray w.drew := by
    rw [hzs]
    exact run_firstCells_some w.drew 4 i ⟨b, 0, none⟩ i c (cs.take (i * 4)) (by rw [htl]) (fun j v hj => by
      rw [Addr.add_lit]
      rw [List.getElem?_take] at hj
      split at hj
      · rw [Nat.zero_add]; exact hcs j v hj
      · cases hj)
  have hrz : ∀ ty, (Builtin.append_ #[49, 3] ty #[.slice (some ⟨b, 0, none⟩) i c, .int .i64 ((n : Int) + 1 - (i : Int))]).run Tryz.prog w =
      .ok (.slice (some ⟨w.heap.size, 0, none⟩) (n + 1) (grownCap w (n + 1) c 86)) (w.drew.alloc (.cells ((cs.take (i * 4)).toArray ++ Builtin.zeroCells z0.cells (n + 1 - i) ++ Builtin.zeroCells z0.cells (grownCap w (n + 1) c 86 - (n + 1))) 86)) := fun ty => by
    have h := Lib.run_append_grow_zeros w 49 3 ty 86 i0 z0 .i64 .i64 Tryz.underlying49 Tryz.underlying3 hi0 hz0 (some ⟨b, 0, none⟩) i c (cs.take (i * 4)) hold (n + 1 - i) (by omega) (by omega) (by omega) (by omega) (by rw [hzb]; omega) (by rw [hzb, hik]; exact growslice_fits hroom hbig)
    rw [hik] at h
    rw [hkk]
    exact h
  obtain ⟨G, hG⟩ : ∃ G, G = grownCap w (n + 1) c 86 := ⟨_, rfl⟩
  have hzsz : z0.cells.size = 4 := by have := congrArg List.length hzc; simpa using this
  obtain ⟨ROW, hROW⟩ : ∃ ROW : Array Value, ROW = (cs.take (i * 4)).toArray ++ Builtin.zeroCells z0.cells (n + 1 - i) ++ Builtin.zeroCells z0.cells (G - (n + 1)) := ⟨_, rfl⟩
  rw [← hG] at hrz
  rw [← hROW] at hrz
  have hRl : (n + 1) * 4 ≤ ROW.size := by
    rw [hROW]
    simp only [Array.size_append, List.size_toArray, size_zeroCells, hzsz, htl]
    omega
  obtain ⟨W1, hW1⟩ : ∃ W1, W1 = w.drew.alloc (.cells ROW 86) := ⟨_, rfl⟩
  rw [← hW1] at hrz
  have hN : ∀ j, j < (n + 1) * 4 → (W1.cell? ⟨w.heap.size, j, none⟩).isSome = true := fun j hj => by
    rw [hW1, World.cell?_alloc_at (w := w.drew) ROW _ w.heap.size j rfl, Array.getElem?_eq_getElem (by omega)]; rfl
  have hNf : ∀ j, W1.frozen? ⟨w.heap.size, j, none⟩ = false := fun j => by rw [hW1]; exact World.frozen?_alloc_at (w := w.drew) ROW _ w.heap.size j rfl
  have hOb : ∀ j v, w.cell? ⟨b, j, none⟩ = some v → W1.cell? ⟨b, j, none⟩ = some v := fun j v h => by rw [hW1, World.cell?_alloc_past (w := w.drew) _ b j hbw]; exact h
  have hOv : ∀ j v, w.cell? ⟨vb, j, none⟩ = some v → W1.cell? ⟨vb, j, none⟩ = some v := fun j v h => by rw [hW1, World.cell?_alloc_past (w := w.drew) _ vb j hvw]; exact h
  have hminA : Nat.min 1 (n + 1 - i) = 1 := by simp only [Nat.min_def]; split <;> omega
  have hcpA : ∀ (W : World), (∀ x, W.cell? x = W1.cell? x) → (∀ x, W.frozen? x = W1.frozen? x) → ∀ ty dc, (Builtin.copy_ #[49, 49] ty #[.slice (some ⟨w.heap.size, i * 4, none⟩) (n + 1 - i) dc, .slice (some ⟨vb, voff, none⟩) 1 vc]).run Tryz.prog W = .ok (goInt (1 : Nat)) (W.setCells w.heap.size (i * 4) vs) := fun W hWc hWf ty dc => by
    have := run_copy_k (P := Tryz.prog) W 49 49 ty 86 4 w.heap.size (i * 4) (n + 1 - i) dc ⟨vb, voff, none⟩ 1 vc vs Tryz.underlying49 hsz (by rw [hvl, hminA])
      (fun j v hj => by rw [Addr.add_lit, hWc]; exact hOv _ v (hvs j v hj))
      (fun j hj => by rw [hWc]; exact hN _ (by omega)) (fun j hj => by rw [hWf]; exact hNf _) h1v
    rw [hminA] at this
    exact this
  have hGn : n + 1 ≤ G := by rw [hG]; exact grownCap_ge w _ _ _
  have hGm : G ≤ maxLen := by rw [hG]; exact grownCap_le_maxLen w (n + 1) c 86 (by unfold maxLen; omega)
  have hG63 : G ≤ 9223372036854775807 := by unfold maxLen at hGm; omega
  have hGi : ¬ (G = i) := by omega
  have hGim : ¬ (G = i + 1) := by omega
  have hci : ¬ (c = i) := by omega
  have hbN : b ≠ w.heap.size := by omega
  have hdl : (cs.drop (i * 4)).length = (n - i) * 4 := by rw [List.length_drop, hcl, Nat.sub_mul]
  have hsz1 : ∀ j, j < (cs.drop (i * 4)).length → (i + 1) * 4 + j < (n + 1) * 4 := fun j hj => by rw [hdl] at hj; omega
  have hb6 : n + 1 - (i + 1) = n - i := by omega
  have hminB : Nat.min (n - i) (n - i) = n - i := Nat.min_self _
  have hcpB : ∀ (W : World), (∀ x, W.cell? x = (W1.setCells w.heap.size (i * 4) vs).cell? x) → (∀ x, W.frozen? x = (W1.setCells w.heap.size (i * 4) vs).frozen? x) → ∀ ty dc sc, (Builtin.copy_ #[49, 49] ty #[.slice (some ⟨w.heap.size, (i + 1) * 4, none⟩) (n - i) dc, .slice (some ⟨b, i * 4, none⟩) (n - i) sc]).run Tryz.prog W = .ok (goInt (n - i : Nat)) (W.setCells w.heap.size ((i + 1) * 4) (cs.drop (i * 4))) := fun W hWc hWf ty dc sc => by
    have := run_copy_k (P := Tryz.prog) W 49 49 ty 86 4 w.heap.size ((i + 1) * 4) (n - i) dc ⟨b, i * 4, none⟩ (n - i) sc (cs.drop (i * 4)) Tryz.underlying49 hsz (by rw [hdl, hminB])
      (fun j v hj => by
        rw [Addr.add_lit, hWc, World.cell?_setCells_out _ _ _ _ _ (fun h _ => absurd h hbN)]
        exact hOb _ v (hcs (i * 4 + j) v (by rwa [List.getElem?_drop] at hj)))
      (fun j hj => by rw [hWc]; exact isSome_setCells _ _ _ _ (fun t ht => hN _ (by omega)) _ (hN _ (hsz1 j hj)))
      (fun j hj => by rw [hWf, World.frozen?_setCells]; exact hNf _) (fun v hv => h1c v (List.mem_of_mem_drop hv))
    rw [hminB] at this
    exact this
  subst hW1
  have hE1 : ∀ x, ((w.alloc (.cells ROW 86)).drew).cell? x = (w.drew.alloc (.cells ROW 86)).cell? x := fun x => rfl
  have hE2 : ∀ x, ((w.alloc (.cells ROW 86)).drew).frozen? x = (w.drew.alloc (.cells ROW 86)).frozen? x := fun x => rfl
  have hF1 : ∀ x, (((w.alloc (.cells ROW 86)).drew.setCells w.heap.size (i * 4) vs).drew).cell? x = ((w.drew.alloc (.cells ROW 86)).setCells w.heap.size (i * 4) vs).cell? x := fun x => rfl
  have hF2 : ∀ x, (((w.alloc (.cells ROW 86)).drew.setCells w.heap.size (i * 4) vs).drew).frozen? x = ((w.drew.alloc (.cells ROW 86)).setCells w.heap.size (i * 4) vs).frozen? x := fun x => rfl
  have hw1 : IntKind.i64.wrap ((i : Int) + 1) = (i : Int) + 1 := by rw [IntKind.wrap_i64]; omega
  have hw2 : IntKind.i64.wrap ((n : Int) + 1) = (n : Int) + 1 := by rw [IntKind.wrap_i64]; omega
  have hw3 : IntKind.i64.wrap ((n : Int) + 1 - (i : Int)) = (n : Int) + 1 - (i : Int) := by rw [IntKind.wrap_i64]; omega
  have hb1 : (0 : Int) ≤ (i : Int) + 1 := by omega
  have hin : i ≤ n := by omega
  have htn : ((i : Int) + 1).toNat = i + 1 := by omega
  have hb3 : (i : Int) ≤ (n : Int) := by omega
  have hb7 : (i : Int) ≤ (n : Int) + 1 := by omega
  have hb8 : (i : Int) ≤ (c : Int) := by omega
  refine Calls.mono (R := fun e w' => e = .returned (.slice (some ⟨w.heap.size, 0, none⟩) (n + 1) G) ∧ w' = (((w.alloc (.cells ROW 86)).drew.setCells w.heap.size (i * 4) vs).drew).setCells w.heap.size ((i + 1) * 4) (cs.drop (i * 4))) ?_ (fun e w' h => ⟨G, z0.cells, hGn, hGm, hzsz, h.1, by rw [← hROW]; exact h.2⟩)
  clear hkk hik hold hROW hG hRl
  go_enter Tryz.func164, Tryz.ntmps164
  go_wp2_with (first
    | (at_builtin; refine Lib.wpList_append_run _ rfl _ _ _ _ rfl _ _ rfl rfl _ _ (hrz _) ?_)
    | (at_builtin; refine wpList_copy_runI _ rfl _ _ 49 49 rfl _ _ rfl rfl (hcpA _ hE1 hE2 _ _) ?_)
    | (at_builtin; refine wpList_copy_runI _ rfl _ _ 49 49 rfl _ _ rfl rfl (hcpB _ (fun _ => rfl) (fun _ => rfl) _ _ _) ?_))
  go_region_law_o (refine step_copy_runI rfl _ _ 49 49 rfl (.slice (some ⟨w.heap.size, (i + 1) * 4, none⟩) (n - i) (G - (i + 1))) (.slice (some ⟨b, i * 4, none⟩) (n - i) (c - i)) (by simp [Act.eval, Act.put]) (by simp [Act.eval, Act.put]) (hcpB _ hF1 hF2 3 (G - (i + 1)) (c - i)) ?_)
  go_wp2
  go_ret
  exact ⟨rfl, rfl⟩
end Go.Proofs
set_option maxRecDepth 10000
namespace Ab
open Go Go.Proofs
theorem cb_self (a : List UInt8) : Lib.compareBytes a a = 0 := (compareBytes_eq a a).2 rfl
def subAt (σ : List (List UInt8 × Term)) (i : Nat) : Bool := isNameP (σ.getD i ([], .mk [] false [])).1 false && (decide (i = 0) || decide (Lib.compareBytes (σ.getD (i - 1) ([], .mk [] false [])).1 (σ.getD i ([], .mk [] false [])).1 < 0))
def subCheck (σ : List (List UInt8 × Term)) : Int := if (List.range σ.length).all (subAt σ) then firstErr (σ.map (·.2)) else 4
theorem sortedS_get {σ : List (List UInt8 × Term)} (h : SortedN (σ.map (·.1))) (i j : Nat) (hi : i < σ.length) (hj : j < σ.length) (hij : i < j) : Lib.compareBytes σ[i].1 σ[j].1 < 0 := by
  unfold SortedN at h
  rw [List.pairwise_map, List.pairwise_iff_getElem] at h
  exact h i j hi hj hij
def look (σ : List (List UInt8 × Term)) (v : List UInt8) : Option Term := (σ.find? fun b => decide (b.1 = v)).map (·.2)
theorem image_look (σ : List (List UInt8 × Term)) (v : List UInt8) : imageP σ v = (look σ v).getD (.mk v true []) := rfl
theorem look_some {σ : List (List UInt8 × Term)} (h : SortedN (σ.map (·.1))) (i : Nat) (hi : i < σ.length) : look σ σ[i].1 = some σ[i].2 := by
  unfold look
  have : σ.find? (fun b => decide (b.1 = σ[i].1)) = some σ[i] := by
    rw [List.find?_eq_some_iff_getElem]
    refine ⟨by simp, i, hi, rfl, fun j hj => ?_⟩
    have h1 := sortedS_get h j i (by omega) hi hj
    simp only [decide_eq_true_eq, Bool.not_eq_true', decide_eq_false_iff_not]
    intro e
    rw [e, cb_self] at h1
    omega
  rw [this]; rfl
theorem look_mem {σ : List (List UInt8 × Term)} (h : SortedN (σ.map (·.1))) {b : List UInt8 × Term} (hb : b ∈ σ) : look σ b.1 = some b.2 := by
  obtain ⟨i, hi, rfl⟩ := List.getElem_of_mem hb
  exact look_some h i hi
theorem look_none {σ : List (List UInt8 × Term)} {v : List UInt8} (h : ∀ b, b ∈ σ → b.1 ≠ v) : look σ v = none := by
  unfold look
  rw [List.find?_eq_none.2 (fun b hb => by simpa using h b hb)]; rfl
theorem look_some_mem {σ : List (List UInt8 × Term)} {v : List UInt8} {t : Term} (h : look σ v = some t) : (v, t) ∈ σ := by
  unfold look at h
  cases hf : σ.find? (fun b => decide (b.1 = v)) with
  | none => rw [hf] at h; cases h
  | some b =>
    rw [hf] at h
    injection h with h
    have h1 := List.find?_some hf
    have h2 := List.mem_of_find?_eq_some hf
    simp only [decide_eq_true_eq] at h1
    rw [← h1, ← h]; exact h2
theorem look_cases {σ : List (List UInt8 × Term)} (v : List UInt8) : (∃ b, b ∈ σ ∧ b.1 = v ∧ look σ v = some b.2) ∨ look σ v = none := by
  cases h : look σ v with
  | none => exact .inr rfl
  | some t => exact .inl ⟨(v, t), look_some_mem h, rfl, rfl⟩
theorem apply_size (σ : List (List UInt8 × Term)) (B : Nat) (hB : 1 ≤ B) (h : ∀ b, b ∈ σ → b.2.size ≤ B) (t : Term) : (applyP σ t).size ≤ t.size * B := by
  induction t using Term.ind with | _ n u xs ih
  rw [applyP_mk]
  split
  · have h1 : 1 ≤ (Term.mk n u xs).size := Term.size_pos _
    have h2 : (imageP σ n).size ≤ B := by
      rw [image_look]
      rcases look_cases (σ := σ) n with ⟨b, hb, _, e⟩ | e
      · rw [e]; exact h b hb
      · rw [e]; simpa [Term.size_mk] using hB
    calc (imageP σ n).size ≤ 1 * B := by omega
      _ ≤ _ := Nat.mul_le_mul_right B h1
  · rw [Term.size_mk, Term.size_mk, Nat.add_mul]
    have h2 : ((xs.map (applyP σ)).map Term.size).sum ≤ (xs.map Term.size).sum * B := by
      clear hB
      induction xs with
      | nil => simp
      | cons a r ih2 =>
        have h3 := ih a (by simp)
        have h4 := ih2 (fun x hx => ih x (by simp [hx]))
        simp only [List.map_cons, List.sum_cons, Nat.add_mul]
        omega
    omega
theorem apply_bulk (σ : List (List UInt8 × Term)) (B : Nat) (h : ∀ b, b ∈ σ → b.2.bulk ≤ B) (t : Term) : (applyP σ t).bulk ≤ t.bulk * (B + 1) := by
  induction t using Term.ind with | _ n u xs ih
  rw [applyP_mk]
  split
  · rw [image_look]
    have h1 : n.length < (Term.mk n u xs).bulk := Term.name_le
    rcases look_cases (σ := σ) n with ⟨b, hb, _, e⟩ | e
    · rw [e]
      have h3 := h b hb
      calc b.2.bulk ≤ 1 * (B + 1) := by omega
        _ ≤ _ := Nat.mul_le_mul_right (B + 1) (by omega)
    · rw [e]
      show (Term.mk n true []).bulk ≤ _
      calc (Term.mk n true []).bulk = 1 + n.length := by simp [Term.bulk_mk]
        _ ≤ (Term.mk n u xs).bulk * 1 := by omega
        _ ≤ _ := Nat.mul_le_mul_left _ (by omega)
  · rw [Term.bulk_mk, Term.bulk_mk, Nat.add_mul]
    have h2 : ((xs.map (applyP σ)).map Term.bulk).sum ≤ (xs.map Term.bulk).sum * (B + 1) := by
      induction xs with
      | nil => simp
      | cons a r ih2 =>
        have h3 := ih a (by simp)
        have h4 := ih2 (fun x hx => ih x (by simp [hx]))
        simp only [List.map_cons, List.sum_cons, Nat.add_mul]
        omega
    have h5 : 1 + n.length ≤ (1 + n.length) * (B + 1) := Nat.le_mul_of_pos_right _ (by omega)
    omega
theorem name_small {s : List UInt8} {m : Bool} (h : isNameP s m = true) : s.length ≤ 24 := by
  unfold isNameP at h
  rw [Bool.and_eq_true, decide_eq_true_eq] at h
  exact h.1
theorem formed_bulk (t : Term) : formedP t = true → t.bulk ≤ 25 * t.size := by
  induction t using Term.ind with | _ n u xs ih
  intro h
  rw [formedP_mk] at h
  rw [Term.bulk_mk, Term.size_mk]
  split at h
  · rw [Bool.and_eq_true, decide_eq_true_eq] at h
    have h1 := name_small h.2
    have h2 := List.eq_nil_of_length_eq_zero h.1
    subst h2
    simp; omega
  · rw [Bool.and_eq_true, Bool.and_eq_true, List.all_eq_true] at h
    have h1 := name_small h.1.2
    have h2 : (xs.map Term.bulk).sum ≤ 25 * (xs.map Term.size).sum := by
      have h3 := h.2
      clear h
      induction xs with
      | nil => simp
      | cons a r ih2 =>
        have h4 := ih a (by simp) (h3 a (by simp))
        have h5 := ih2 (fun x hx => ih x (by simp [hx])) (fun x hx => h3 x (by simp [hx]))
        simp only [List.map_cons, List.sum_cons]
        omega
    omega
theorem check_iff (t : Term) : checkP t = 0 ↔ formedP t = true ∧ fitsP t = true := by
  unfold checkP
  cases formedP t <;> cases fitsP t <;> simp
theorem fits_size {t : Term} (h : fitsP t = true) : t.size ≤ 4000 := by
  unfold fitsP at h
  rw [Bool.and_eq_true, decide_eq_true_eq] at h
  exact h.1
theorem check_small {t : Term} (h : checkP t = 0) : t.size ≤ 4000 ∧ t.bulk ≤ 100000 := by
  have h1 := (check_iff t).1 h
  have h2 := fits_size h1.2
  have h3 := formed_bulk t h1.1
  omega
theorem formed_apply (σ : List (List UInt8 × Term)) (h : ∀ b, b ∈ σ → formedP b.2 = true) (t : Term) : formedP t = true → formedP (applyP σ t) = true := by
  induction t using Term.ind with | _ n u xs ih
  intro ht
  rw [applyP_mk]
  rw [formedP_mk] at ht
  cases u with
  | true =>
    simp only [if_true] at ht ⊢
    rw [image_look]
    rcases look_cases (σ := σ) n with ⟨b, hb, _, e⟩ | e
    · rw [e]; exact h b hb
    · rw [e]
      show formedP (.mk n true []) = true
      rw [formedP_mk]
      rw [Bool.and_eq_true] at ht
      simp [ht.2]
  | false =>
    simp only [Bool.false_eq_true, if_false] at ht ⊢
    rw [formedP_mk]
    simp only [Bool.false_eq_true, if_false, List.length_map, List.all_map]
    rw [Bool.and_eq_true, List.all_eq_true] at ht ⊢
    exact ⟨ht.1, fun x hx => ih x hx (ht.2 x hx)⟩
theorem look_isNone {σ : List (List UInt8 × Term)} {v : List UInt8} : (look σ v).isNone = true ↔ ∀ b, b ∈ σ → b.1 ≠ v := by
  constructor
  · intro h b hb e
    subst e
    unfold look at h
    rw [Option.isNone_iff_eq_none, Option.map_eq_none_iff, List.find?_eq_none] at h
    exact h b hb (by simp)
  · intro h; rw [look_none h]; rfl
end Ab
set_option maxRecDepth 10000
namespace Ab
open Go Go.Proofs
theorem subOk (σ : List (List UInt8 × Term)) (j : Nat) (h : σ.length ≤ j) (ha : (List.range σ.length).all (subAt σ) = true) (hj : firstErr ((σ.map (·.2)).take j) = 0) : subCheck σ = 0 := by
  unfold subCheck
  rw [if_pos ha]
  rwa [List.take_of_length_le (by simpa using h)] at hj
end Ab
set_option maxRecDepth 10000
namespace Ab
open Go Go.Proofs
def appL (σ : List (List UInt8 × Term)) (xs : List Term) : List Term := xs.map (applyP σ)
theorem appL_take (σ : List (List UInt8 × Term)) (xs : List Term) (i : Nat) (h : i < xs.length) : appL σ (xs.take (i + 1)) = appL σ (xs.take i) ++ [applyP σ xs[i]] := by
  unfold appL; rw [List.take_succ_eq_append_getElem h, List.map_append]; rfl
theorem appL_nil (σ : List (List UInt8 × Term)) : appL σ [] = [] := (rfl)
theorem appL_len (σ : List (List UInt8 × Term)) (xs : List Term) : (appL σ xs).length = xs.length := by simp [appL]
theorem applyP_t (σ : List (List UInt8 × Term)) (n : List UInt8) (xs : List Term) : applyP σ (.mk n true xs) = imageP σ n := by rw [applyP_mk]; simp
theorem applyP_f (σ : List (List UInt8 × Term)) (n : List UInt8) (xs : List Term) : applyP σ (.mk n false xs) = .mk n false (appL σ xs) := by rw [applyP_mk]; rfl
end Ab
set_option maxRecDepth 10000
namespace Ab
open Go Go.Proofs
theorem searchB_ac (xs : List (List UInt8 × Term)) (v : List UInt8) (g : Nat) (caps : List AV) (c : List UInt8 × Term → Int) (H : List AObj) (hlen : xs.length < 1099511627776) (hg : callOk Tryz.prog g = true) (hsc : ScopedL H.length caps)
    (hmono : ∀ i j (hi : i < xs.length) (hj : j < xs.length), i ≤ j → c xs[j] < 0 → c xs[i] < 0)
    (hf : ∀ i (h : i < xs.length) X, ACall Tryz.prog g (encBd xs[i] :: .str v :: caps) X (fun r H' => r = .int .i64 (c xs[i]) ∧ H' = X)) :
    ACall Tryz.prog 145 [.sl .none (encL encBd xs), .str v, .fn g caps] H
      (fun r H' => ∃ i : Nat, i ≤ xs.length ∧ (∀ j (hj : j < xs.length), j < i → c xs[j] < 0) ∧ (∀ j (hj : j < xs.length), i ≤ j → ¬ c xs[j] < 0) ∧ r = .tup [.int .i64 i, .bool (decide (∃ h : i < xs.length, c xs[i] = 0))] ∧ H' = H) := by
  refine ACall_W (H.length) 46 [.tmp 6, .tmp 7] Tryz.func145 rfl rfl rfl ?_
  simp only [push_cast, Nat.reduceAdd, Nat.reduceSub, Nat.reduceMul, Nat.reduceLT, Nat.reduceLeDiff, Nat.reduceEqDiff, Int.reduceToNat, ↓reduceIte]
  refine AW_loopW (maskG 49 [0, 0, 0, 5, 0, 0]) (fun (q : Nat × Nat) => [(9, .int .i64 q.1), (10, .int .i64 q.2)]) (fun _ => H) (fun q => q.1 ≤ q.2 ∧ q.2 ≤ xs.length ∧ (∀ j (hj : j < xs.length), j < q.1 → c xs[j] < 0) ∧ (∀ j (hj : j < xs.length), q.2 ≤ j → ¬ c xs[j] < 0)) (fun q => q.2 - q.1) (0, xs.length) ⟨by simp, by simp, fun j hj h => by simp at h, fun j hj h => by simp at h; omega⟩ (by simp only [push_cast, Nat.reduceAdd, Nat.reduceSub, Nat.reduceMul, Nat.reduceLT, Nat.reduceLeDiff, Nat.reduceEqDiff, Int.reduceToNat, ↓reduceIte, hsc]) (fun q hq => ?_)
  obtain ⟨i, j⟩ := q
  obtain ⟨hi1, hi2, hi3, hi4⟩ := hq
  simp only at hi1 hi2 hi3 hi4
  simp only [push_cast, Nat.reduceAdd, Nat.reduceSub, Nat.reduceMul, Nat.reduceLT, Nat.reduceLeDiff, Nat.reduceEqDiff, Int.reduceToNat, ↓reduceIte, hg]
  refine cI (fun h => ?_) (fun h => ?_)
  · have e1 : ((i : Int) + j) / 2 ^ 1 = (((i + j) / 2 : Nat) : Int) := by rw [Int.pow_one]; omega
    have e2 : 1 ≤ IntKind.u64.bits := by decide
    obtain ⟨m, hm⟩ : ∃ m, m = (i + j) / 2 := ⟨_, rfl⟩
    rw [← hm] at e1
    rw [e1]
    repeat refine ⟨by omega, ?_⟩
    have hmx : m < xs.length := by omega
    refine (hf m hmx _).to ?_
    simp only [push_cast, Nat.reduceAdd, Nat.reduceSub, Nat.reduceMul, Nat.reduceLT, Nat.reduceLeDiff, Nat.reduceEqDiff, Int.reduceToNat, ↓reduceIte]
    refine cI (fun hc => ?_) (fun hc => ?_)
    · repeat' first | refine ⟨by omega, ?_⟩ | refine cI (fun _ => ?_) (fun _ => ?_)
      exact loopW_n (m + 1, j) ⟨by simp only; omega, by simp only; omega, fun k hk hkm => hmono k m hk hmx (by simp only at hkm; omega) hc, hi4⟩ (by simp only; omega) (by simp only [push_cast, Nat.reduceAdd, Nat.reduceSub, Nat.reduceMul, Nat.reduceLT, Nat.reduceLeDiff, Nat.reduceEqDiff, Int.reduceToNat, ↓reduceIte, hsc])
    · repeat' first | refine ⟨by omega, ?_⟩ | refine cI (fun _ => ?_) (fun _ => ?_)
      exact loopW_n (i, m) ⟨by simp only; omega, by simp only; omega, hi3, fun k hk hmk hneg => absurd (hmono m k hmx hk hmk hneg) hc⟩ (by simp only; omega) (by simp only [push_cast, Nat.reduceAdd, Nat.reduceSub, Nat.reduceMul, Nat.reduceLT, Nat.reduceLeDiff, Nat.reduceEqDiff, Int.reduceToNat, ↓reduceIte, hsc])
  · have hall : ∀ k (hk : k < xs.length), i ≤ k → ¬ c xs[k] < 0 := fun k hk hik => hi4 k hk (by omega)
    refine cI (fun hl => ?_) (fun hl => ?_)
    · have hil : i < xs.length := by omega
      repeat refine ⟨by omega, ?_⟩
      refine (hf i hil _).to ?_
      simp only [push_cast, Nat.reduceAdd, Nat.reduceSub, Nat.reduceMul, Nat.reduceLT, Nat.reduceLeDiff, Nat.reduceEqDiff, Int.reduceToNat, ↓reduceIte]
      refine ⟨i, by omega, hi3, hall, rfl, ?_⟩
      simp [hil]
    · refine ⟨i, by omega, hi3, hall, rfl, ?_⟩
      have hil : ¬ i < xs.length := by omega
      simp [hil]
theorem imageC_ac (x : List UInt8 × Term) (v : List UInt8) (H : List AObj) : ACall Tryz.prog 146 [encBd x, .str v] H (fun r H' => r = .int .i64 (Lib.compareBytes x.1 v) ∧ H' = H) := by
  refine ACall_V (H.length) 7 [.tmp 4] Tryz.func146 rfl rfl rfl ?_
  simp only [push_cast, Nat.reduceAdd, Nat.reduceSub, Nat.reduceMul, Nat.reduceLT, Nat.reduceLeDiff, Nat.reduceEqDiff, Int.reduceToNat, ↓reduceIte]
  refine (compareStr_ac x.1 v _).to ?_
  simp only [push_cast, Nat.reduceAdd, Nat.reduceSub, Nat.reduceMul, Nat.reduceLT, Nat.reduceLeDiff, Nat.reduceEqDiff, Int.reduceToNat, ↓reduceIte]
theorem imageT_ac (σ : List (List UInt8 × Term)) (hs : SortedN (σ.map (·.1))) (v : List UInt8) (hlen : σ.length < 1099511627776) (H : List AObj) : ACall Tryz.prog 118 [.sl .none (encL encBd σ), .str v] H (fun r H' => r = .tup [encT ((look σ v).getD (.mk [] false [])), .bool (look σ v).isSome] ∧ H' = H) := by
  refine ACall_V (H.length) 20 [.cell 4 25, .tmp 5] Tryz.func118 rfl rfl rfl ?_
  simp only [push_cast, Nat.reduceAdd, Nat.reduceSub, Nat.reduceMul, Nat.reduceLT, Nat.reduceLeDiff, Nat.reduceEqDiff, Int.reduceToNat, ↓reduceIte]
  refine (searchB_ac σ v 146 [] (fun b => Lib.compareBytes b.1 v) _ hlen ok146 (by simp [ScopedL]) (fun i j hi hj hij hc => ?_) (fun i h X => imageC_ac _ v _)).mono ?_
  · rcases Nat.lt_or_eq_of_le hij with h | h
    · exact cb_trans _ _ _ (sortedS_get hs i j hi hj h) hc
    · subst h; exact hc
  rintro r H' ⟨i, h1, h2, h3, rfl, rfl⟩
  by_cases hx : ∃ h : i < σ.length, Lib.compareBytes σ[i].1 v = 0
  · obtain ⟨hil, he⟩ := hx
    have hv := (compareBytes_eq _ _).1 he
    have hl : look σ v = some σ[i].2 := by rw [← hv]; exact look_some hs i hil
    have hd : decide (∃ h : i < σ.length, Lib.compareBytes σ[i].1 v = 0) = true := by rw [decide_eq_true_eq]; exact ⟨hil, he⟩
    simp only [push_cast, Nat.reduceAdd, Nat.reduceSub, Nat.reduceMul, Nat.reduceLT, Nat.reduceLeDiff, Nat.reduceEqDiff, Int.reduceToNat, ↓reduceIte, hd]
    repeat refine ⟨by omega, ?_⟩
    simp only [push_cast, Nat.reduceAdd, Nat.reduceSub, Nat.reduceMul, Nat.reduceLT, Nat.reduceLeDiff, Nat.reduceEqDiff, Int.reduceToNat, ↓reduceIte, hl]
    simp
  · have hl : look σ v = none := look_none fun b hb e => by
      obtain ⟨j, hj, rfl⟩ := List.getElem_of_mem hb
      have hj0 : Lib.compareBytes σ[j].1 v = 0 := by rw [e]; exact cb_self v
      rcases Nat.lt_trichotomy j i with h | h | h
      · have := h2 j hj h; omega
      · subst h; exact hx ⟨hj, hj0⟩
      · have h4 := sortedS_get hs i j (by omega) hj h
        rw [e] at h4
        exact h3 i (by omega) (Nat.le_refl _) h4
    have hd : decide (∃ h : i < σ.length, Lib.compareBytes σ[i].1 v = 0) = false := by rw [decide_eq_false_iff_not]; exact hx
    simp only [push_cast, Nat.reduceAdd, Nat.reduceSub, Nat.reduceMul, Nat.reduceLT, Nat.reduceLeDiff, Nat.reduceEqDiff, Int.reduceToNat, ↓reduceIte, hd, hl]
    simp
theorem image_bulk (σ : List (List UInt8 × Term)) (B : Nat) (hb : ∀ b, b ∈ σ → b.2.bulk ≤ B) (n : List UInt8) (hn : n.length < B) : (imageP σ n).bulk ≤ B := by
  rw [image_look]
  rcases look_cases (σ := σ) n with ⟨b, hbm, _, e⟩ | e
  · rw [e]; exact hb b hbm
  · rw [e]
    show (Term.mk n true []).bulk ≤ B
    rw [Term.bulk_mk]; simp; omega
theorem sizes_take (σ : List (List UInt8 × Term)) (xs : List Term) (i : Nat) (h : i < xs.length) : ((appL σ (xs.take (i + 1))).map Term.size).sum = ((appL σ (xs.take i)).map Term.size).sum + (applyP σ xs[i]).size ∧ ((appL σ (xs.take (i + 1))).map Term.depth).foldl max 0 = max (((appL σ (xs.take i)).map Term.depth).foldl max 0) (applyP σ xs[i]).depth := by
  rw [appL_take σ xs i h, List.map_append, List.map_append, List.sum_append, List.foldl_append]
  exact ⟨by simp, by simp⟩
theorem sizes_le (σ : List (List UInt8 × Term)) (xs : List Term) (i : Nat) : ((appL σ (xs.take i)).map Term.size).sum ≤ ((appL σ xs).map Term.size).sum ∧ ((appL σ (xs.take i)).map Term.depth).foldl max 0 ≤ ((appL σ xs).map Term.size).sum := by
  have h1 : appL σ (xs.take i) = (appL σ xs).take i := by simp [appL, List.map_take]
  have h2 := take_sum_le Term.size (appL σ xs) i
  have h3 := foldl_max_le Term.depth ((appL σ xs).take i) 0
  have h4 : (((appL σ xs).take i).map Term.depth).sum ≤ (((appL σ xs).take i).map Term.size).sum := by
    generalize (appL σ xs).take i = l
    induction l with
    | nil => simp
    | cons a r ih => have := a.depth_le; simp only [List.map_cons, List.sum_cons]; omega
  rw [h1]; omega
theorem measure_ac (σ : List (List UInt8 × Term)) (hs : SortedN (σ.map (·.1))) (hlen : σ.length < 1099511627776) (hbk : ∀ b, b ∈ σ → b.2.bulk ≤ 1099511627775) (t : Term) : t.bulk ≤ 1099511627775 → (applyP σ t).size ≤ 1099511627775 → ∀ H, ACall Tryz.prog 91 [.sl .none (encL encBd σ), encT t] H (fun r H' => r = .agg [.int .i64 (applyP σ t).size, .int .i64 (applyP σ t).depth] ∧ H' = H) := by
  induction t using Term.ind with | _ n u xs ih
  intro hb hb2 H
  have hl := Term.len_le (n := n) (v := u) (xs := xs)
  have hnl := Term.name_le (n := n) (v := u) (xs := xs)
  cases u with
  | true =>
    rw [applyP_t]
    have hib := image_bulk σ 1099511627775 hbk n (by omega)
    rw [image_look] at hib ⊢
    refine ACall_V (H.length) 54 [.cell 4 117] Tryz.func91 rfl rfl rfl ?_
    simp only [push_cast, Nat.reduceAdd, Nat.reduceSub, Nat.reduceMul, Nat.reduceLT, Nat.reduceLeDiff, Nat.reduceEqDiff, Int.reduceToNat, ↓reduceIte]
    refine (imageT_ac σ hs n hlen _).to ?_
    rcases look_cases (σ := σ) n with ⟨b, hbm, _, e⟩ | e
    · have hbb := hbk b hbm
      simp only [push_cast, Nat.reduceAdd, Nat.reduceSub, Nat.reduceMul, Nat.reduceLT, Nat.reduceLeDiff, Nat.reduceEqDiff, Int.reduceToNat, ↓reduceIte, e, Option.isSome_some, Option.getD_some]
      apply AW_drawE [some 21, some 22, some 23, some 24, some 25, none] [([false], _), ([true], _)] [none, none, none, none, none, some 0] 1 [(0, [false], [5]), (1, [false], [21]), (2, [false], [5]), (3, [false], [23]), (4, [false], [22, 1]), (5, [false], [4, 20])] [_, _, _, _, _, _]
      case' hm => exact dr
      case' hn => rfl
      case' hok => rfl
      case' hlen => rfl
      case' hd => rfl
      case' h0 => rfl
      case' hstep =>
       simp only [DAllG, push_cast, Option.isSome_some, Option.isSome_none]
       repeat' apply And.intro
       all_goals (apply DOne_V; simp only [push_cast, Nat.reduceAdd, Nat.reduceSub, Nat.reduceMul, Nat.reduceLT, Nat.reduceLeDiff, Nat.reduceEqDiff, Int.reduceToNat, ↓reduceIte] <;> first | exact rfl | omega | exact ⟨rfl, rfl⟩ | exact trivial | exact ⟨by omega, rfl⟩ | exact ⟨by omega, by omega, rfl⟩ | exact ⟨by omega, rfl, rfl⟩ | exact ⟨by omega, by omega, rfl, rfl⟩ | exact (size_ac b.2 (by omega) _).to ⟨rfl, rfl⟩ | exact (depth_ac b.2 (by omega) _).to ⟨rfl, rfl⟩)
      case' hQ => skip
      simp only [push_cast, Nat.reduceAdd, Nat.reduceSub, Nat.reduceMul, Nat.reduceLT, Nat.reduceLeDiff, Nat.reduceEqDiff, Int.reduceToNat, ↓reduceIte]
    · simp only [push_cast, Nat.reduceAdd, Nat.reduceSub, Nat.reduceMul, Nat.reduceLT, Nat.reduceLeDiff, Nat.reduceEqDiff, Int.reduceToNat, ↓reduceIte, e, Option.isSome_none, Option.getD_none, Term.size_mk, Term.depth_mk]
      simp
  | false =>
    rw [applyP_f] at hb2 ⊢
    have hdp := (Term.mk n false (appL σ xs)).depth_le
    rw [Term.size_mk] at hb2 hdp ⊢
    rw [Term.depth_mk] at hdp ⊢
    refine ACall_V (H.length) 54 [.cell 4 117] Tryz.func91 rfl rfl rfl ?_
    simp only [push_cast, Nat.reduceAdd, Nat.reduceSub, Nat.reduceMul, Nat.reduceLT, Nat.reduceLeDiff, Nat.reduceEqDiff, Int.reduceToNat, ↓reduceIte]
    refine AW_loopW (maskG 56 [0, 3, 2, 21, 0, 0]) (fun (i : Nat) => [(31, .int .i64 i)]) (fun i => H ++ [.cells [.str n, .bool false, .sl .none (encTs xs)], .cells [.int .i64 0, .int .i64 0], .cells [.int .i64 (1 + ((appL σ (xs.take i)).map Term.size).sum : Nat), .int .i64 (((appL σ (xs.take i)).map Term.depth).foldl max 0 : Nat)]]) (fun i => i ≤ xs.length) (fun i => xs.length - i) 0 (Nat.zero_le _) (by simp only [push_cast, Nat.reduceAdd, Nat.reduceSub, Nat.reduceMul, Nat.reduceLT, Nat.reduceLeDiff, Nat.reduceEqDiff, Int.reduceToNat, ↓reduceIte, List.take_zero, appL_nil]; simp) (fun i hi => ?_)
    simp only [push_cast, Nat.reduceAdd, Nat.reduceSub, Nat.reduceMul, Nat.reduceLT, Nat.reduceLeDiff, Nat.reduceEqDiff, Int.reduceToNat, ↓reduceIte]
    refine cI (fun h => ?_) (fun h => ?_)
    · have hil : i < xs.length := by omega
      repeat refine ⟨by omega, ?_⟩
      obtain ⟨hq1, hq2⟩ := sizes_take σ xs i hil
      obtain ⟨hw1, hw2⟩ := sizes_le σ xs (i + 1)
      obtain ⟨hw3, hw4⟩ := sizes_le σ xs i
      refine (ih _ (List.getElem_mem hil) (arg_bulk hb i hil) (by omega) _).to ?_
      simp only [push_cast, Nat.reduceAdd, Nat.reduceSub, Nat.reduceMul, Nat.reduceLT, Nat.reduceLeDiff, Nat.reduceEqDiff, Int.reduceToNat, ↓reduceIte]
      apply AW_drawE [some 38, some 39, some 40, some 41, some 42, some 43, some 44, some 45, some 46, some 47, some 48, none, some 49, none] [([false, false], _), ([true, false], _), ([true, true], _)] [none, none, none, none, none, none, none, none, none, none, none, some 0, none, some 1] 2 [(0, [false, false], [7]), (1, [false, false], [38]), (2, [false, false], [10]), (3, [false, false], [40]), (4, [false, false], [39, 1]), (5, [false, false], [7]), (6, [false, false], [43]), (7, [false, false], [10]), (8, [false, false], [45]), (9, [false, false], [44, 1]), (10, [false, false], [7]), (11, [false, false], [42, 5]), (12, [true, false], [7]), (13, [true, false], [47, 1]), (7, [true, false], [10]), (8, [true, false], [45]), (9, [true, false], [44, 1])] [_, _, _, _, _, _, _, _, _, _, _, _, _, _]
      case' hm => exact dr
      case' hn => rfl
      case' hok => rfl
      case' hlen => rfl
      case' hd => rfl
      case' h0 => rfl
      case' hstep =>
       simp only [DAllG, push_cast, Option.isSome_some, Option.isSome_none]
       repeat' apply And.intro
       all_goals (apply DOne_V; simp only [push_cast, Nat.reduceAdd, Nat.reduceSub, Nat.reduceMul, Nat.reduceLT, Nat.reduceLeDiff, Nat.reduceEqDiff, Int.reduceToNat, ↓reduceIte] <;> first | exact rfl | omega | exact ⟨rfl, rfl⟩ | exact trivial | exact ⟨by omega, rfl⟩ | exact ⟨by omega, by omega, rfl⟩ | exact ⟨by omega, rfl, rfl⟩ | exact ⟨by omega, by omega, rfl, rfl⟩ | skip)
      case' hQ => skip
      simp only [push_cast, Nat.reduceAdd, Nat.reduceSub, Nat.reduceMul, Nat.reduceLT, Nat.reduceLeDiff, Nat.reduceEqDiff, Int.reduceToNat, ↓reduceIte]
      repeat' first | refine ⟨by omega, ?_⟩ | refine cI (fun _ => ?_) (fun _ => ?_)
      exact loopW_n (i + 1) (by omega) (by omega) (by simp only [push_cast, Nat.reduceAdd, Nat.reduceSub, Nat.reduceMul, Nat.reduceLT, Nat.reduceLeDiff, Nat.reduceEqDiff, Int.reduceToNat, ↓reduceIte, hq1, hq2]; simp only [AObj.cells.injEq, List.cons.injEq, AV.int.injEq, and_true, true_and]; omega)
    · obtain ⟨hw3, hw4⟩ := sizes_le σ xs xs.length
      rw [List.take_of_length_le (Nat.le_refl _)] at hw3 hw4
      simp only [push_cast, Nat.reduceAdd, Nat.reduceSub, Nat.reduceMul, Nat.reduceLT, Nat.reduceLeDiff, Nat.reduceEqDiff, Int.reduceToNat, ↓reduceIte, List.take_of_length_le (show xs.length ≤ i by omega)]
      omega
end Ab
set_option maxRecDepth 10000
namespace Ab
open Go Go.Proofs
theorem setCells_heap (b : Nat) {e : TypeId} : ∀ (vs : List Value) (o : Nat) (w : World) (cur : Array Value), w.heap[b]? = some (.cells cur e (0, 0)) → o + vs.length ≤ cur.size →
    ∃ cur', (w.setCells b o vs).heap = w.heap.setIfInBounds b (.cells cur' e (0, 0)) ∧ cur'.size = cur.size ∧ SameOut w (w.setCells b o vs) ∧ ∀ j, cur'[j]? = if o ≤ j ∧ j < o + vs.length then vs[j - o]? else cur[j]?
  | [], o, w, cur, h, _ => by
    refine ⟨cur, ?_, rfl, ⟨rfl, rfl, rfl⟩, fun j => by rw [if_neg (fun h => by simp at h; omega)]⟩
    apply Array.ext_getElem?
    intro k
    rw [Array.getElem?_setIfInBounds]
    split
    · rename_i hk; subst hk
      split
      · exact h
      · rename_i h1; exact absurd (Array.getElem?_eq_some_iff.1 h).1 h1
    · rfl
  | v :: r, o, w, cur, h, hl => by
    have hlt := (Array.getElem?_eq_some_iff.1 h).1
    have h1 : (w.setCell ⟨b, o, none⟩ v).heap = w.heap.setIfInBounds b (.cells (cur.setIfInBounds o v) e (0, 0)) := by
      apply Array.ext_getElem?
      intro k
      unfold World.setCell
      simp only [Array.getElem?_modify, Array.getElem?_setIfInBounds]
      by_cases hk : b = k
      · subst hk
        rw [if_pos rfl, if_pos rfl, if_pos hlt, h]; rfl
      · rw [if_neg hk, if_neg hk]
    have h2 : (w.setCell ⟨b, o, none⟩ v).heap[b]? = some (.cells (cur.setIfInBounds o v) e (0, 0)) := by rw [h1]; simp [hlt]
    obtain ⟨cur', g1, g2, g3, g4⟩ := setCells_heap b r (o + 1) (w.setCell ⟨b, o, none⟩ v) _ h2 (by simp at hl ⊢; omega)
    refine ⟨cur', ?_, by rw [g2]; simp, ⟨g3.1, g3.2, g3.3⟩, fun j => ?_⟩
    · show ((w.setCell ⟨b, o, none⟩ v).setCells b (o + 1) r).heap = _
      rw [g1, h1]
      simp
    · rw [g4 j]
      simp only [List.length_cons] at hl ⊢
      by_cases hj : j = o
      · subst hj
        rw [if_neg (by omega), if_pos (by omega), Array.getElem?_setIfInBounds, if_pos rfl, if_pos (by omega)]
        simp
      · by_cases hj2 : o + 1 ≤ j ∧ j < o + 1 + r.length
        · rw [if_pos hj2, if_pos (by omega)]
          have e1 : j - o = (j - (o + 1)) + 1 := by omega
          rw [e1, List.getElem?_cons_succ]
        · rw [if_neg hj2, if_neg (by omega), Array.getElem?_setIfInBounds, if_neg (by omega)]
theorem insMid_ac (k : Nat) (xs : List AV) (y : AV) (tk : Tok) (i : Nat) (hi : i < xs.length) (hux : Uni 4 xs) (huy : y.cells.length = 4) (hcy : ∀ c, c ∈ y.cells → c.isCell = true) (hlen : xs.length < 1099511627776) (H : List AObj) (hk : H[k]? = some (.grow 86 4 (flat xs))) :
    ACall Tryz.prog 164 [.gr k xs.length, .int .i64 (i : Nat), .sl tk [y]] H (fun r H' => r = .gr k (xs.length + 1) ∧ H' = H.set k (.grow 86 4 ((flat xs).take (i * 4) ++ y.cells ++ (flat xs).drop (i * 4)))) := by
  intro C vs hg hH hsz hv
  match vs, hsz, hv with
  | ⟨[v0, v1, v2]⟩, _, hv =>
    have h0 : VRel C (.gr k xs.length) v0 := hv 0 (by simp) (by simp)
    have h1 : VRel C (.int .i64 (i : Nat)) v1 := hv 1 (by simp) (by simp)
    have h2 : VRel C (.sl tk [y]) v2 := hv 2 (by simp) (by simp)
    have e1 := h1.int_inv
    subst e1
    have hfx := flat_length hux
    have hkC : C.H[k]? = some (.grow 86 4 (flat xs)) := by rw [hH]; exact hk
    obtain ⟨c, cur, rfl, hb, hcm, hnc, hcs⟩ := gr_val h0 hkC hfx.symm
    obtain ⟨cur2, hb2, hfit, hS, hrel⟩ := hg.obj k _ hkC
    rw [hb] at hb2
    injection hb2 with hb2; injection hb2 with hb2 _ _
    subst hb2
    have hfy : flat [y] = y.cells := by simp [flat]
    have hmu := hg.lt k _ hkC (by simp [AObj.kind])
    have hkl : k < C.H.length := (List.getElem?_eq_some_iff.1 hkC).1
    have hcm' : c ≤ 9223372036854775807 := by unfold maxLen at hcm; omega
    cases h2 with
    | sl _ _ ad n c2 f hn hc2 hrow hrel2 htok =>
    subst hn
    have hfne : flat [y] ≠ [] := fun e => by rw [hfy] at e; rw [e] at huy; simp at huy
    obtain ⟨vb, vo, rfl, hr⟩ := hrow hfne
    have hfl : (flat [y]).length = 4 := by rw [hfy]; exact huy
    have hr0 := hr 0 (by omega)
    have hvb : vb ≠ C.μ k := fun e => by rw [e, hS] at hr0; omega
    have hvbl := hg.S_lt hr0.1
    obtain ⟨nw, hnw⟩ : ∃ nw, nw = (List.range 4).map f := ⟨_, rfl⟩
    have hnwl : nw.length = 4 := by rw [hnw]; simp
    have hnwg : ∀ j (hj : j < 4), nw[j]? = some (f j) := fun j hj => by rw [hnw]; simp [hj]
    have hvs : ∀ j v, nw[j]? = some v → C.w.cell? ⟨vb, vo + j, none⟩ = some v := fun j v hj => by
      have hj4 : j < 4 := by have := (List.getElem?_eq_some_iff.1 hj).1; omega
      rw [hnwg j hj4] at hj
      rw [(hr j (by omega)).2]; exact hj
    have h1v : ∀ v ∈ nw, v.oneCell' = true := fun v hv => by
      obtain ⟨j, hj, rfl⟩ := List.getElem_of_mem hv
      have hj4 : j < 4 := by omega
      have h3 := hrel2 j (by omega)
      have h4 : nw[j] = f j := by have := hnwg j hj4; rw [List.getElem?_eq_getElem hj] at this; injection this
      rw [h4]
      exact h3.oneCell (hcy _ (by rw [← hfy]; simp))
    obtain ⟨cs, hcsd⟩ : ∃ cs, cs = cur.toList.take (xs.length * 4) := ⟨_, rfl⟩
    have hxfit : xs.length * 4 ≤ cur.size := by rw [hfx] at hfit; exact hfit
    have hcl : cs.length = xs.length * 4 := by rw [hcsd, List.length_take]; simp; omega
    have hcsg : ∀ j, j < xs.length * 4 → cs[j]? = cur[j]? := fun j hj => by rw [hcsd, List.getElem?_take_of_lt hj]; simp
    have hcc : ∀ j v, cs[j]? = some v → C.w.cell? ⟨C.μ k, j, none⟩ = some v := fun j v hj => by
      have hjl : j < xs.length * 4 := by have := (List.getElem?_eq_some_iff.1 hj).1; omega
      rw [hcsg j hjl] at hj
      simp [World.cell?, hb, hj]
    have h1c : ∀ v ∈ cs, v.oneCell' = true := fun v hv => by
      obtain ⟨j, hj, rfl⟩ := List.getElem_of_mem hv
      have hjl : j < cur.size := by omega
      have h3 := hrel j (by omega) hjl
      have h4 : cs[j] = cur[j] := by
        have := hcsg j (by omega)
        rw [List.getElem?_eq_getElem hj, Array.getElem?_eq_getElem hjl] at this
        injection this
      rw [h4]; exact h3.1.oneCell h3.2
    have hsha : ∃ tA kA, C.w.shape? vb = some (tA, kA) ∧ kA ≠ 0 := by
      have h3 := hr0.2
      unfold World.cell? at h3
      unfold World.shape?
      cases hq : C.w.heap[vb]? with
      | none => rw [hq] at h3; simp at h3
      | some o =>
        rw [hq] at h3
        cases o with
        | cells cc ee ff =>
          simp at h3
          have := (Array.getElem?_eq_some_iff.1 h3).1
          exact ⟨_, _, rfl, by omega⟩
        | _ => simp at h3
    obtain ⟨tA, kA, hsa, hkA⟩ := hsha
    have hnewl : ((flat xs).take (i * 4) ++ y.cells ++ (flat xs).drop (i * 4)).length = (xs.length + 1) * 4 := by
      simp only [List.length_append, List.length_take, List.length_drop, hfx, huy]; omega
    have hnget : ∀ j (hj : j < ((flat xs).take (i * 4) ++ y.cells ++ (flat xs).drop (i * 4)).length), ∃ q, (((flat xs).take (i * 4) ++ y.cells ++ (flat xs).drop (i * 4))[j] = q) ∧
        ((j < i * 4 ∧ (flat xs)[j]? = some q) ∨ (i * 4 ≤ j ∧ j < (i + 1) * 4 ∧ (flat [y])[j - i * 4]? = some q) ∨ ((i + 1) * 4 ≤ j ∧ (flat xs)[j - 4]? = some q)) := fun j hj => by
      refine ⟨_, rfl, ?_⟩
      have hq := List.getElem?_eq_getElem hj
      generalize ((flat xs).take (i * 4) ++ y.cells ++ (flat xs).drop (i * 4))[j] = q at hq ⊢
      rw [hnewl] at hj
      by_cases g1 : j < i * 4
      · left; refine ⟨g1, ?_⟩
        rw [List.append_assoc, List.getElem?_append_left (by rw [List.length_take, hfx]; omega), List.getElem?_take_of_lt g1] at hq
        exact hq
      · right
        rw [List.append_assoc, List.getElem?_append_right (by rw [List.length_take, hfx]; omega)] at hq
        have e3 : ((flat xs).take (i * 4)).length = i * 4 := by rw [List.length_take, hfx]; omega
        rw [e3] at hq
        by_cases g2 : j < (i + 1) * 4
        · left; refine ⟨by omega, g2, ?_⟩
          rw [List.getElem?_append_left (by omega)] at hq
          rw [hfy]; exact hq
        · right; refine ⟨by omega, ?_⟩
          rw [List.getElem?_append_right (by omega), List.getElem?_drop, huy] at hq
          rw [show i * 4 + (j - i * 4 - 4) = j - 4 from by omega] at hq
          exact hq
    have hbig : (xs.length + 1) * 64 ≤ 140737488355328 := by omega
    by_cases hroom : xs.length + 1 ≤ c
    · refine (Tryz.insShift (C.μ k) xs.length c i vb vo c2 cs nw C.w hi hroom hcm' hvb hcl hnwl hcc (fun j hj => ?_) (fun j => by simp [World.frozen?, hb]) hvs h1c h1v tA 86 kA cur.size hsa hkA (by simp [World.shape?, hb]) (by omega)).mono fun e w' ⟨he, hw⟩ => ?_
      · have hjc : j < cur.size := by rw [hcs]; omega
        simp [World.cell?, hb, hjc]
      · have hdl : (cs.drop (i * 4)).length = (xs.length - i) * 4 := by rw [List.length_drop, hcl, Nat.sub_mul]
        obtain ⟨cur1, a1, a2, a3, a4⟩ := setCells_heap (C.μ k) (cs.drop (i * 4)) ((i + 1) * 4) C.w.drew cur hb (by rw [hdl, hcs]; omega)
        have hb1 : (C.w.drew.setCells (C.μ k) ((i + 1) * 4) (cs.drop (i * 4))).heap[C.μ k]? = some (.cells cur1 86 (0, 0)) := by rw [a1, Array.getElem?_setIfInBounds, if_pos rfl]; exact if_pos hmu
        obtain ⟨cur', b1, b2, b3, b4⟩ := setCells_heap (C.μ k) nw (i * 4) _ cur1 hb1 (by rw [hnwl, a2, hcs]; omega)
        have hheap : w'.heap = C.w.heap.setIfInBounds (C.μ k) (.cells cur' 86 (0, 0)) := by
          rw [hw, b1, a1]; simp; rfl
        have hcs2 : cur'.size = cur.size := by rw [b2, a2]
        have hget : ∀ j, j < (xs.length + 1) * 4 → cur'[j]? = if j < i * 4 then cur[j]? else if j < (i + 1) * 4 then some (f (j - i * 4)) else cur[j - 4]? := fun j hj => by
          rw [b4 j, a4 j, hnwl, hdl]
          by_cases g1 : j < i * 4
          · rw [if_neg (by omega), if_neg (by omega), if_pos g1]
          · rw [if_neg g1]
            by_cases g2 : j < (i + 1) * 4
            · rw [if_pos (by omega), if_pos g2, hnwg _ (by omega)]
            · rw [if_neg (by omega), if_neg g2, if_pos (by omega), List.getElem?_drop, hcsg _ (by omega)]
              congr 1; omega
        have hso : SameOut C.w w' := by
          rw [hw]
          exact ⟨b3.1.trans a3.1, b3.2.trans a3.2, b3.3.trans a3.3⟩
        obtain ⟨hg', hx'⟩ := step_gr_in hg k (vs' := (flat xs).take (i * 4) ++ y.cells ++ (flat xs).drop (i * 4)) hkC hb hheap hso hcs2 (by rw [hnewl, hfx]; omega) rfl (fun hxx => by
          refine ⟨cur', by rw [hheap]; simp [hmu], by rw [hnewl, hcs2, hcs]; omega, hS, fun j hj hj' => ?_⟩
          obtain ⟨q, hq, hcase⟩ := hnget j hj
          have hgj := hget j (by rw [hnewl] at hj; exact hj)
          rw [Array.getElem?_eq_getElem hj'] at hgj
          rw [hq]
          rcases hcase with ⟨g1, g2⟩ | ⟨g1, g2, g3⟩ | ⟨g1, g2⟩
          · obtain ⟨z1, z2⟩ := List.getElem?_eq_some_iff.1 g2
            rw [if_pos g1, Array.getElem?_eq_getElem (by omega)] at hgj
            injection hgj with hgj
            rw [hgj, ← z2]
            exact ⟨(hrel j z1 (by omega)).1.ext hxx, (hrel j z1 (by omega)).2⟩
          · obtain ⟨z1, z2⟩ := List.getElem?_eq_some_iff.1 g3
            rw [if_neg (by omega), if_pos g2] at hgj
            injection hgj with hgj
            rw [hgj, ← z2]
            exact ⟨(hrel2 _ z1).ext hxx, hcy _ (by rw [← hfy]; simp)⟩
          · obtain ⟨z1, z2⟩ := List.getElem?_eq_some_iff.1 g2
            rw [if_neg (by omega), if_neg (by omega), Array.getElem?_eq_getElem (by omega)] at hgj
            injection hgj with hgj
            rw [hgj, ← z2]
            exact ⟨(hrel (j - 4) z1 (by omega)).1.ext hxx, (hrel (j - 4) z1 (by omega)).2⟩)
        refine ⟨_, .gr k (xs.length + 1), _, he, rfl, hg', hx', ?_, rfl, by rw [← hH]⟩
        exact .gr k _ _ _ ⟨86, 4, (flat xs).take (i * 4) ++ y.cells ++ (flat xs).drop (i * 4), by show (C.H.set k _)[k]? = _; simp [hkl], by rw [hnewl]; exact Nat.le_refl _, by decide, fun _ => ⟨cur', rfl, by show w'.heap[C.μ k]? = _; rw [hheap]; simp [hmu], hcm, hroom, by rw [hcs2, hcs]⟩⟩
    · refine (Tryz.insGrow (C.μ k) xs.length c i vb vo c2 cs nw C.w #[] hi hnc (by omega) hbig hcl hnwl hcc hvs h1c h1v).mono fun e w' ⟨G, z, hG1, hG2, hz4, he, hw⟩ => ?_
      have hdl : (cs.drop (i * 4)).length = (xs.length - i) * 4 := by rw [List.length_drop, hcl, Nat.sub_mul]
      obtain ⟨ROW, hROW⟩ : ∃ ROW, ROW = (cs.take (i * 4)).toArray ++ Builtin.zeroCells z (xs.length + 1 - i) ++ Builtin.zeroCells z (G - (xs.length + 1)) := ⟨_, rfl⟩
      rw [← hROW] at hw
      have htl : (cs.take (i * 4)).length = i * 4 := by rw [List.length_take, hcl]; omega
      have hRs : ROW.size = G * 4 := by
        rw [hROW]; simp only [Array.size_append, List.size_toArray, size_zeroCells, hz4, htl]; omega
      have hR0 : ∀ j, j < i * 4 → ROW[j]? = cur[j]? := fun j hj => by
        rw [hROW, Array.append_assoc, Array.getElem?_append_left (by simp [htl]; omega), List.getElem?_toArray, List.getElem?_take_of_lt hj, hcsg _ (by omega)]
      have hbn : ((C.w.alloc (.cells ROW 86)).drew).heap[C.w.heap.size]? = some (.cells ROW 86 (0, 0)) := heap_alloc_new C.w _
      obtain ⟨cur1, a1, a2, a3, a4⟩ := setCells_heap C.w.heap.size nw (i * 4) _ ROW hbn (by rw [hnwl, hRs]; omega)
      have hb1 : (((C.w.alloc (.cells ROW 86)).drew.setCells C.w.heap.size (i * 4) nw).drew).heap[C.w.heap.size]? = some (.cells cur1 86 (0, 0)) := by
        show ((C.w.alloc (.cells ROW 86)).drew.setCells C.w.heap.size (i * 4) nw).heap[C.w.heap.size]? = _
        rw [a1, Array.getElem?_setIfInBounds, if_pos rfl, if_pos (Array.getElem?_eq_some_iff.1 hbn).1]
      obtain ⟨cur', b1, b2, b3, b4⟩ := setCells_heap C.w.heap.size (cs.drop (i * 4)) ((i + 1) * 4) _ cur1 hb1 (by rw [hdl, a2, hRs]; omega)
      have hheap : w'.heap = C.w.heap.push (.cells cur' 86 (0, 0)) := by
        rw [hw, b1]
        show Array.setIfInBounds ((C.w.alloc (.cells ROW 86)).drew.setCells C.w.heap.size (i * 4) nw).heap _ _ = _
        rw [a1]
        show Array.setIfInBounds (Array.setIfInBounds (C.w.heap.push (.cells ROW 86 (0, 0))) _ _) _ _ = _
        apply Array.ext_getElem?
        intro q
        simp only [Array.getElem?_setIfInBounds, Array.getElem?_push, Array.size_setIfInBounds, Array.size_push]
        by_cases hq : C.w.heap.size = q
        · subst hq; simp
        · have hq' : ¬ q = C.w.heap.size := fun e => hq e.symm
          simp [hq, hq']
      have hcs2 : cur'.size = G * 4 := by rw [b2, a2, hRs]
      have hget : ∀ j, j < (xs.length + 1) * 4 → cur'[j]? = if j < i * 4 then cur[j]? else if j < (i + 1) * 4 then some (f (j - i * 4)) else cur[j - 4]? := fun j hj => by
        rw [b4 j, a4 j, hnwl, hdl]
        by_cases g1 : j < i * 4
        · rw [if_neg (by omega), if_neg (by omega), if_pos g1, hR0 j g1]
        · rw [if_neg g1]
          by_cases g2 : j < (i + 1) * 4
          · rw [if_neg (by omega), if_pos (by omega), if_pos g2, hnwg _ (by omega)]
          · rw [if_pos (by omega), if_neg g2, List.getElem?_drop, hcsg _ (by omega)]
            congr 1; omega
      have hso : SameOut C.w w' := by
        rw [hw]
        exact ⟨b3.1.trans a3.1, b3.2.trans a3.2, b3.3.trans a3.3⟩
      obtain ⟨hg', hx'⟩ := step_gr_move hg k (vs' := (flat xs).take (i * 4) ++ y.cells ++ (flat xs).drop (i * 4)) hkC hheap hso (by rw [hnewl, hfx]; omega) rfl (fun hxx => by
        refine ⟨cur', by show w'.heap[if k = k then _ else _]? = _; rw [if_pos rfl, hheap]; simp, by rw [hnewl, hcs2]; omega, by show C.S (if k = k then _ else _) = _; rw [if_pos rfl]; exact hg.fresh _ (Nat.le_refl _), fun j hj hj' => ?_⟩
        obtain ⟨q, hq, hcase⟩ := hnget j hj
        have hgj := hget j (by rw [hnewl] at hj; exact hj)
        rw [Array.getElem?_eq_getElem hj'] at hgj
        rw [hq]
        rcases hcase with ⟨g1, g2⟩ | ⟨g1, g2, g3⟩ | ⟨g1, g2⟩
        · obtain ⟨z1, z2⟩ := List.getElem?_eq_some_iff.1 g2
          rw [if_pos g1, Array.getElem?_eq_getElem (by omega)] at hgj
          injection hgj with hgj
          rw [hgj, ← z2]
          exact ⟨(hrel j z1 (by omega)).1.ext hxx, (hrel j z1 (by omega)).2⟩
        · obtain ⟨z1, z2⟩ := List.getElem?_eq_some_iff.1 g3
          rw [if_neg (by omega), if_pos g2] at hgj
          injection hgj with hgj
          rw [hgj, ← z2]
          exact ⟨(hrel2 _ z1).ext hxx, hcy _ (by rw [← hfy]; simp)⟩
        · obtain ⟨z1, z2⟩ := List.getElem?_eq_some_iff.1 g2
          rw [if_neg (by omega), if_neg (by omega), Array.getElem?_eq_getElem (by omega)] at hgj
          injection hgj with hgj
          rw [hgj, ← z2]
          exact ⟨(hrel (j - 4) z1 (by omega)).1.ext hxx, (hrel (j - 4) z1 (by omega)).2⟩)
      refine ⟨_, .gr k (xs.length + 1), _, he, rfl, hg', hx', ?_, rfl, by rw [← hH]⟩
      refine .gr k _ _ _ ⟨86, 4, (flat xs).take (i * 4) ++ y.cells ++ (flat xs).drop (i * 4), by show (C.H.set k _)[k]? = _; simp [hkl], by rw [hnewl]; exact Nat.le_refl _, by decide, fun _ => ⟨cur', by simp, ?_, hG2, hG1, hcs2⟩⟩
      show w'.heap[if k = k then _ else _]? = _
      rw [if_pos rfl, hheap]; simp
end Ab
set_option maxRecDepth 10000
namespace Ab
open Go Go.Proofs
section
variable {P : Program} {ro : Option Nat} {st : ASt} {dst : Option Tmp} {ty : TypeId} {pos : String} {after : Array Edge} {guard : Option (Nat × Bool)} {K : AV → List AObj → Prop}
theorem AOp_slice_grJ {t e sz : Nat} {x : Operand} {lo hi : Option Operand} (id n l h : Nat) (e' : TypeId) (sz' : Nat) (vs : List AV) (hx : st.opd x = .gr id n) (hh : st.heap[id]? = some (.grow e' sz' vs)) (hn : n * sz' = vs.length) (ht : SliceT P t e) (hs : SzOf P e sz) (hlo : OptInt st lo l 0) (hhi : OptInt st hi h n) (h1 : l ≤ h) (h2 : h ≤ n)
    (k : K .junk st.heap) : AOp P ro ⟨dst, .slice t x lo hi none, ty, pos, after, guard⟩ K st :=
  AOp_pure _ (fun c => by simp) (fun C a hg hH hsr => by
    have hv := hsr.opd x
    rw [hx] at hv
    obtain ⟨c, cur, hxx, _, _, hnc, _⟩ := gr_val hv (by rw [hH]; exact hh) hn
    have ht' : P.underlying t = some (.slice e) := ht
    have hb := bounds_run (P := P) true n c (lo.map a.eval) (hi.map a.eval) l h C.w (hlo.val hsr) (hhi.val hsr) h1 (by omega)
    exact ⟨_, by simp [execOp, hxx, Instr.sliceAt, Instr.slice, run_underlying ht', hb, hs.run]; rfl, .junk _⟩) k
theorem app1_Gr {α : Type} (enc : α → AV) {t e by_ sz : Nat} {s x : Operand} (hu : ∀ x, (enc x).cells.length = sz) (hc : ∀ x c, c ∈ (enc x).cells → c.isCell = true) (zs : List Value) (k : Nat) (xs : List α) (y : α) (tk : Tok) (hs : st.opd s = grS k (encL enc xs)) (hx : st.opd x = .sl tk [enc y]) (hh : st.heap[k]? = some (grO e sz (encL enc xs)))
    (ht : SliceT P t e) (hsz : SzOf P e sz) (hby : BytesOf P e by_) (hz : ZeroOf P e zs) (hz0 : zs.length = sz) (h0 : 0 < sz) (hb : by_ ≤ 100) (hl : xs.length < 1099511627776)
    (k' : K (grS k (encL enc (xs ++ [y]))) (st.heap.set k (grO e sz (encL enc (xs ++ [y]))))) :
    AOp P ro ⟨dst, .call { callee := .builtin .append, args := #[s, x], argTypes := #[t, t] }, ty, pos, after, guard⟩ K st := by
  have e1 : encL enc (xs ++ [y]) = encL enc xs ++ [enc y] := by simp [encL]
  rw [e1] at k'
  refine AOp_append_Gr zs k (encL enc xs) [enc y] tk hs hx hh ht hsz hby hz hz0 h0 (uni_encL hu xs) (by intro x hx; rw [List.mem_singleton] at hx; subst hx; exact hu y) (fun c h => hc y c (by simpa [flat] using h)) ?_ (by rw [encL_length]; simp; omega) k'
  rw [encL_length]
  calc (xs.length + 1) * by_ ≤ 1099511627776 * 100 := Nat.mul_le_mul (by omega) hb
    _ ≤ _ := by decide
end
theorem flB_len (l : List (List UInt8 × Term)) : (flat (encL encBd l)).length = l.length * 4 := by rw [flat_length (uni_encL (enc := encBd) (k := 4) (fun _ => rfl) l), encL_length]
theorem flB_sc (n : Nat) (l : List (List UInt8 × Term)) : ScopedL n (flat (encL encBd l)) = True := by
  refine eq_true ?_
  rw [ScopedL_iff]
  intro v hv
  unfold flat encL at hv
  rw [List.mem_flatMap] at hv
  obtain ⟨a, ha, hv⟩ := hv
  obtain ⟨b, _, rfl⟩ := List.mem_map.1 ha
  simp only [AV.cells, List.mem_cons, List.not_mem_nil, or_false] at hv
  rcases hv with rfl | rfl | rfl | rfl <;> simp [Scoped, scoped_encTs]
theorem flB_app (a b : List (List UInt8 × Term)) : flat (encL encBd (a ++ b)) = flat (encL encBd a) ++ flat (encL encBd b) := by simp [flat, encL]
theorem flB_take (l : List (List UInt8 × Term)) (i : Nat) (h : i ≤ l.length) : (flat (encL encBd l)).take (i * 4) = flat (encL encBd (l.take i)) := by
  conv => lhs; rw [← List.take_append_drop i l, flB_app]
  rw [List.take_left' (by rw [flB_len, List.length_take]; omega)]
theorem flB_drop (l : List (List UInt8 × Term)) (i : Nat) (h : i ≤ l.length) : (flat (encL encBd l)).drop (i * 4) = flat (encL encBd (l.drop i)) := by
  conv => lhs; rw [← List.take_append_drop i l, flB_app]
  rw [List.drop_left' (by rw [flB_len, List.length_take]; omega)]
theorem bd4 (l : List (List UInt8 × Term)) (i : Nat) (h : i < l.length) : ((flat (encL encBd l)).drop (i * 4)).take 4 = [.str l[i].1, .str l[i].2.name, .bool l[i].2.var, .sl .none (encTs l[i].2.args)] := by
  rw [flB_drop l i (by omega), List.drop_eq_getElem_cons h]
  rfl
theorem bd3 (l : List (List UInt8 × Term)) (i : Nat) (h : i < l.length) : ((flat (encL encBd l)).drop (i * 4 + 1)).take 3 = [.str l[i].2.name, .bool l[i].2.var, .sl .none (encTs l[i].2.args)] := by
  rw [← List.drop_drop, flB_drop l i (by omega), List.drop_eq_getElem_cons h]
  rfl
theorem grS_cons (k : Nat) (b : List UInt8 × Term) (l : List (List UInt8 × Term)) : grS k (encL encBd (b :: l)) = .gr k (l.length + 1) := by
  show AV.gr k (encL encBd (b :: l)).length = _
  rw [encL_length]; rfl
theorem grO_cons (e : Nat) (b : List UInt8 × Term) (l : List (List UInt8 × Term)) : grO e 4 (encL encBd (b :: l)) = .grow e 4 (flat (encL encBd (b :: l))) := (rfl)
theorem strip_grS (n k : Nat) (xs : List AV) : strip n (grS k xs) = grS k xs := by cases xs <;> rfl
theorem osc_grB (n e : Nat) (l : List (List UInt8 × Term)) : OScoped n (grO e 4 (encL encBd l)) := of_eq_true (osc_grO _ _ _ _ (of_eq_true (flB_sc n l)))
theorem outok_set {H : List AObj} {k : Nat} {o : AObj} (ho : OScoped H.length o) : OutOk H (H.set k o) H.length := by
  refine ⟨by simp, Nat.le_refl _, fun j hj => ?_⟩
  by_cases h : k = j
  · subst h; exact .inr ⟨o, by simp [hj], ho⟩
  · exact .inl ⟨hj, by simp [h]⟩
theorem ins_fin {H : List AObj} {k : Nat} (hkl : k < H.length) (l : List (List UInt8 × Term)) : OutOk H (H.set k (grO 86 4 (encL encBd l))) H.length ∧ Scoped H.length (strip H.length (grS k (encL encBd l))) ∧ strip H.length (grS k (encL encBd l)) = grS k (encL encBd l) ∧ (H.set k (grO 86 4 (encL encBd l))).take H.length = H.set k (grO 86 4 (encL encBd l)) := by
  refine ⟨outok_set (osc_grB _ _ _), ?_, strip_grS _ _ _, List.take_of_length_le (by simp)⟩
  rw [strip_grS]; exact of_eq_true (sc_grS _ _ _ hkl)
theorem ins_ac (k : Nat) (σ : List (List UInt8 × Term)) (b : List UInt8 × Term) (tk : Tok) (i : Nat) (hi : i ≤ σ.length) (hlen : σ.length < 1099511627775) (H : List AObj) (hk : H[k]? = some (grO 86 4 (encL encBd σ))) :
    ACall Tryz.prog 164 [grS k (encL encBd σ), .int .i64 (i : Nat), .sl tk [encBd b]] H (fun r H' => r = grS k (encL encBd (σ.take i ++ [b] ++ σ.drop i)) ∧ H' = H.set k (grO 86 4 (encL encBd (σ.take i ++ [b] ++ σ.drop i)))) := by
  have hkl := (List.getElem?_eq_some_iff.1 hk).1
  rcases Nat.lt_or_eq_of_le hi with h | h
  · cases σ with
    | nil => simp at h
    | cons a r =>
      have h1 := insMid_ac k (encL encBd (a :: r)) (encBd b) tk i (by rw [encL_length]; exact h) (uni_encL (enc := encBd) (k := 4) (fun _ => rfl) _) rfl (cellBd b) (by rw [encL_length]; omega) H hk
      refine h1.mono ?_
      rintro r' H' ⟨rfl, rfl⟩
      obtain ⟨L, hL⟩ : ∃ L, L = (a :: r).take i ++ [b] ++ (a :: r).drop i := ⟨_, rfl⟩
      have hLl : L.length = (a :: r).length + 1 := by rw [hL]; simp only [List.length_append, List.length_take, List.length_drop, List.length_singleton]; omega
      rw [← hL]
      have hfl : (flat (encL encBd (a :: r))).take (i * 4) ++ (encBd b).cells ++ (flat (encL encBd (a :: r))).drop (i * 4) = flat (encL encBd L) := by
        rw [flB_take _ _ hi, flB_drop _ _ hi, hL, flB_app, flB_app]
        simp [flat, encL]
      rw [hfl]
      cases L with
      | nil => simp at hLl
      | cons c l =>
        refine ⟨?_, rfl⟩
        rw [grS_cons]
        simp only [List.length_cons] at hLl
        congr 1
        rw [encL_length]; simp only [List.length_cons]; omega
  · subst h
    rw [List.take_length, List.drop_length, List.append_nil]
    cases σ with
    | nil =>
      refine ACall_W (H.length) 92 [.tmp 6] Tryz.func164 rfl rfl rfl ?_
      simp only [push_cast, Nat.reduceAdd, Nat.reduceSub, Nat.reduceMul, Nat.reduceLT, Nat.reduceLeDiff, Nat.reduceEqDiff, Int.reduceToNat, ↓reduceIte]
      refine ⟨by omega, fun x hx => absurd hx (by simp), cI (fun h => absurd h (by decide)) (fun _ => ?_)⟩
      refine app1_Gr encBd (sz := 4) (fun _ => rfl) cellBd _ k [] b tk rfl rfl hk sl49 sz86 by86 zr86 rfl (by decide) (by decide) (by decide) ?_
      simp only [push_cast, Nat.reduceAdd, Nat.reduceSub, Nat.reduceMul, Nat.reduceLT, Nat.reduceLeDiff, Nat.reduceEqDiff, Int.reduceToNat, ↓reduceIte]
      exact ins_fin hkl _
    | cons a r =>
      rw [grS_cons]
      refine ACall_W (H.length) 92 [.tmp 6] Tryz.func164 rfl rfl rfl ?_
      simp only [push_cast, Nat.reduceAdd, Nat.reduceSub, Nat.reduceMul, Nat.reduceLT, Nat.reduceLeDiff, Nat.reduceEqDiff, Int.reduceToNat, ↓reduceIte]
      refine AOp_slice_grJ k (r.length + 1) (r.length + 1) (r.length + 1) _ _ _ rfl (hk.trans (congrArg some (grO_cons _ a r))) (flB_len (a :: r)).symm sl49 sz86 (.inr ⟨_, _, rfl, rfl⟩) (.inl ⟨rfl, rfl⟩) (Nat.le_refl _) (Nat.le_refl _) ?_
      simp only [push_cast, Nat.reduceAdd, Nat.reduceSub, Nat.reduceMul, Nat.reduceLT, Nat.reduceLeDiff, Nat.reduceEqDiff, Int.reduceToNat, ↓reduceIte]
      refine cI (fun h => absurd h (by decide)) (fun _ => ?_)
      refine app1_Gr encBd (sz := 4) (fun _ => rfl) cellBd _ k (a :: r) b tk (grS_cons k a r).symm rfl hk sl49 sz86 by86 zr86 rfl (by decide) (by decide) (by omega) ?_
      simp only [push_cast, Nat.reduceAdd, Nat.reduceSub, Nat.reduceMul, Nat.reduceLT, Nat.reduceLeDiff, Nat.reduceEqDiff, Int.reduceToNat, ↓reduceIte]
      exact ins_fin hkl _
theorem searchG_ac (k : Nat) (xs : List (List UInt8 × Term)) (hne : xs ≠ []) (v : List UInt8) (g : Nat) (caps : List AV) (c : List UInt8 × Term → Int) (H : List AObj) (hk : H[k]? = some (grO 86 4 (encL encBd xs))) (hlen : xs.length < 1099511627776) (hg : callOk Tryz.prog g = true) (hsc : ScopedL H.length caps)
    (hmono : ∀ i j (hi : i < xs.length) (hj : j < xs.length), i ≤ j → c xs[j] < 0 → c xs[i] < 0)
    (hf : ∀ i (h : i < xs.length) X, ACall Tryz.prog g (encBd xs[i] :: .str v :: caps) X (fun r H' => r = .int .i64 (c xs[i]) ∧ H' = X)) :
    ACall Tryz.prog 145 [grS k (encL encBd xs), .str v, .fn g caps] H
      (fun r H' => ∃ i : Nat, i ≤ xs.length ∧ (∀ j (hj : j < xs.length), j < i → c xs[j] < 0) ∧ (∀ j (hj : j < xs.length), i ≤ j → ¬ c xs[j] < 0) ∧ r = .tup [.int .i64 i, .bool (decide (∃ h : i < xs.length, c xs[i] = 0))] ∧ H' = H) := by
  have hkl := (List.getElem?_eq_some_iff.1 hk).1
  have hgr : grS k (encL encBd xs) = .gr k xs.length ∧ grO 86 4 (encL encBd xs) = .grow 86 4 (flat (encL encBd xs)) := by
    cases xs with
    | nil => exact absurd rfl hne
    | cons a r => exact ⟨grS_cons k a r, rfl⟩
  rw [hgr.2] at hk
  rw [hgr.1]
  have hfl := flB_len xs
  refine ACall_W (H.length) 46 [.tmp 6, .tmp 7] Tryz.func145 rfl rfl rfl ?_
  simp only [push_cast, Nat.reduceAdd, Nat.reduceSub, Nat.reduceMul, Nat.reduceLT, Nat.reduceLeDiff, Nat.reduceEqDiff, Int.reduceToNat, ↓reduceIte]
  refine AW_loopW (maskG 49 [0, 0, 0, 5, 0, 0]) (fun (q : Nat × Nat) => [(9, .int .i64 q.1), (10, .int .i64 q.2)]) (fun _ => H) (fun q => q.1 ≤ q.2 ∧ q.2 ≤ xs.length ∧ (∀ j (hj : j < xs.length), j < q.1 → c xs[j] < 0) ∧ (∀ j (hj : j < xs.length), q.2 ≤ j → ¬ c xs[j] < 0)) (fun q => q.2 - q.1) (0, xs.length) ⟨by simp, by simp, fun j hj h => by simp at h, fun j hj h => by simp at h; omega⟩ (by simp only [push_cast, Nat.reduceAdd, Nat.reduceSub, Nat.reduceMul, Nat.reduceLT, Nat.reduceLeDiff, Nat.reduceEqDiff, Int.reduceToNat, ↓reduceIte, hsc, Scoped, hkl]) (fun q hq => ?_)
  obtain ⟨i, j⟩ := q
  obtain ⟨hi1, hi2, hi3, hi4⟩ := hq
  simp only at hi1 hi2 hi3 hi4
  simp only [push_cast, Nat.reduceAdd, Nat.reduceSub, Nat.reduceMul, Nat.reduceLT, Nat.reduceLeDiff, Nat.reduceEqDiff, Int.reduceToNat, ↓reduceIte, hg, hk, hfl]
  refine cI (fun h => ?_) (fun h => ?_)
  · have e1 : ((i : Int) + j) / 2 ^ 1 = (((i + j) / 2 : Nat) : Int) := by rw [Int.pow_one]; omega
    have e2 : 1 ≤ IntKind.u64.bits := by decide
    obtain ⟨m, hm⟩ : ∃ m, m = (i + j) / 2 := ⟨_, rfl⟩
    rw [← hm] at e1
    rw [e1]
    have hmx : m < xs.length := by omega
    repeat refine ⟨by omega, ?_⟩
    rw [Int.toNat_natCast, bd4 xs m hmx]
    refine (hf m hmx _).to ?_
    simp only [push_cast, Nat.reduceAdd, Nat.reduceSub, Nat.reduceMul, Nat.reduceLT, Nat.reduceLeDiff, Nat.reduceEqDiff, Int.reduceToNat, ↓reduceIte]
    refine cI (fun hc => ?_) (fun hc => ?_)
    · repeat' first | refine ⟨by omega, ?_⟩ | refine cI (fun _ => ?_) (fun _ => ?_)
      exact loopW_n (m + 1, j) ⟨by simp only; omega, by simp only; omega, fun k hk hkm => hmono k m hk hmx (by simp only at hkm; omega) hc, hi4⟩ (by simp only; omega) (by simp only [push_cast, Nat.reduceAdd, Nat.reduceSub, Nat.reduceMul, Nat.reduceLT, Nat.reduceLeDiff, Nat.reduceEqDiff, Int.reduceToNat, ↓reduceIte, hsc, Scoped, hkl])
    · repeat' first | refine ⟨by omega, ?_⟩ | refine cI (fun _ => ?_) (fun _ => ?_)
      exact loopW_n (i, m) ⟨by simp only; omega, by simp only; omega, hi3, fun k hk hmk hneg => absurd (hmono m k hmx hk hmk hneg) hc⟩ (by simp only; omega) (by simp only [push_cast, Nat.reduceAdd, Nat.reduceSub, Nat.reduceMul, Nat.reduceLT, Nat.reduceLeDiff, Nat.reduceEqDiff, Int.reduceToNat, ↓reduceIte, hsc, Scoped, hkl])
  · have hall : ∀ k (hk : k < xs.length), i ≤ k → ¬ c xs[k] < 0 := fun k hk hik => hi4 k hk (by omega)
    refine cI (fun hl => ?_) (fun hl => ?_)
    · have hil : i < xs.length := by omega
      repeat refine ⟨by omega, ?_⟩
      rw [bd4 xs i hil]
      refine (hf i hil _).to ?_
      simp only [push_cast, Nat.reduceAdd, Nat.reduceSub, Nat.reduceMul, Nat.reduceLT, Nat.reduceLeDiff, Nat.reduceEqDiff, Int.reduceToNat, ↓reduceIte]
      refine ⟨i, by omega, hi3, hall, rfl, ?_⟩
      simp [hil]
    · refine ⟨i, by omega, hi3, hall, rfl, ?_⟩
      have hil : ¬ i < xs.length := by omega
      simp [hil]
theorem imageG_ac (k : Nat) (σ : List (List UInt8 × Term)) (hs : SortedN (σ.map (·.1))) (v : List UInt8) (hlen : σ.length < 1099511627776) (H : List AObj) (hk : H[k]? = some (grO 86 4 (encL encBd σ))) :
    ACall Tryz.prog 118 [grS k (encL encBd σ), .str v] H (fun r H' => r = .tup [encT ((look σ v).getD (.mk [] false [])), .bool (look σ v).isSome] ∧ H' = H) := by
  have hkl := (List.getElem?_eq_some_iff.1 hk).1
  by_cases hne : σ = []
  · subst hne
    exact ACall.forget (args' := [.sl .none (encL encBd []), .str v]) ⟨Forget.tok _ _, Forget.refl _, trivial⟩ (imageT_ac [] hs v hlen H)
  have hgr : grS k (encL encBd σ) = .gr k σ.length ∧ grO 86 4 (encL encBd σ) = .grow 86 4 (flat (encL encBd σ)) := by
    cases σ with
    | nil => exact absurd rfl hne
    | cons a r => exact ⟨grS_cons k a r, rfl⟩
  have hk0 := hk
  rw [hgr.2] at hk
  have hfl := flB_len σ
  rw [hgr.1]
  refine ACall_V (H.length) 20 [.cell 4 25, .tmp 5] Tryz.func118 rfl rfl rfl ?_
  have hk1 : ∀ o, (H ++ [o])[k]? = some (grO 86 4 (encL encBd σ)) := fun o => getD_app _ _ _ hk0
  simp only [push_cast, Nat.reduceAdd, Nat.reduceSub, Nat.reduceMul, Nat.reduceLT, Nat.reduceLeDiff, Nat.reduceEqDiff, Int.reduceToNat, ↓reduceIte]
  rw [← hgr.1]
  refine (searchG_ac k σ hne v 146 [] (fun b => Lib.compareBytes b.1 v) _ (hk1 _) hlen ok146 (by simp [ScopedL]) (fun i j hi hj hij hc => ?_) (fun i h X => imageC_ac _ v _)).mono ?_
  · rcases Nat.lt_or_eq_of_le hij with h | h
    · exact cb_trans _ _ _ (sortedS_get hs i j hi hj h) hc
    · subst h; exact hc
  rintro r H' ⟨i, h1, h2, h3, rfl, rfl⟩
  have hk2 : ∀ o, (H ++ [o])[k]? = some (.grow 86 4 (flat (encL encBd σ))) := fun o => getD_app _ _ _ hk
  by_cases hx : ∃ h : i < σ.length, Lib.compareBytes σ[i].1 v = 0
  · obtain ⟨hil, he⟩ := hx
    have hv := (compareBytes_eq _ _).1 he
    have hl : look σ v = some σ[i].2 := by rw [← hv]; exact look_some hs i hil
    have hd : decide (∃ h : i < σ.length, Lib.compareBytes σ[i].1 v = 0) = true := by rw [decide_eq_true_eq]; exact ⟨hil, he⟩
    simp only [push_cast, Nat.reduceAdd, Nat.reduceSub, Nat.reduceMul, Nat.reduceLT, Nat.reduceLeDiff, Nat.reduceEqDiff, Int.reduceToNat, ↓reduceIte, hd, hgr.1, hk2, hfl, bd3 σ i hil, hl]
    exact ⟨hil, by omega, rfl⟩
  · have hl : look σ v = none := look_none fun b hb e => by
      obtain ⟨j, hj, rfl⟩ := List.getElem_of_mem hb
      have hj0 : Lib.compareBytes σ[j].1 v = 0 := by rw [e]; exact cb_self v
      rcases Nat.lt_trichotomy j i with h | h | h
      · have := h2 j hj h; omega
      · subst h; exact hx ⟨hj, hj0⟩
      · have h4 := sortedS_get hs i j (by omega) hj h
        rw [e] at h4
        exact h3 i (by omega) (Nat.le_refl _) h4
    have hd : decide (∃ h : i < σ.length, Lib.compareBytes σ[i].1 v = 0) = false := by rw [decide_eq_false_iff_not]; exact hx
    simp only [push_cast, Nat.reduceAdd, Nat.reduceSub, Nat.reduceMul, Nat.reduceLT, Nat.reduceLeDiff, Nat.reduceEqDiff, Int.reduceToNat, ↓reduceIte, hd, hl]
    simp
end Ab
namespace Ab
open Go
def subLe (σ τ : List (List UInt8 × Term)) : Prop := ∀ v x, look σ v = some x → look τ v = some x
theorem subLe.refl (σ : List (List UInt8 × Term)) : subLe σ σ := fun _ _ h => h
theorem subLe.trans {a b c : List (List UInt8 × Term)} (h1 : subLe a b) (h2 : subLe b c) : subLe a c := fun v x h => h2 v x (h1 v x h)
def insB (σ : List (List UInt8 × Term)) (v : List UInt8) (t : Term) : List (List UInt8 × Term) := σ.take (insAt (σ.map (·.1)) v) ++ [(v, t)] ++ σ.drop (insAt (σ.map (·.1)) v)
theorem insB_length (σ : List (List UInt8 × Term)) (v : List UInt8) (t : Term) : (insB σ v t).length = σ.length + 1 := by
  unfold insB
  rw [List.length_append, List.length_append, List.length_take, List.length_drop, List.length_singleton]
  omega
theorem mem_insB {σ : List (List UInt8 × Term)} {v : List UInt8} {t : Term} (b : List UInt8 × Term) : b ∈ insB σ v t ↔ b ∈ σ ∨ b = (v, t) := by
  unfold insB
  rw [List.mem_append, List.mem_append, List.mem_singleton]
  have e := List.take_append_drop (insAt (σ.map (·.1)) v) σ
  constructor
  · rintro ((h | h) | h)
    · exact .inl (List.mem_of_mem_take h)
    · exact .inr h
    · exact .inl (List.mem_of_mem_drop h)
  · rintro (h | h)
    · rw [← e, List.mem_append] at h
      rcases h with h | h
      · exact .inl (.inl h)
      · exact .inr h
    · exact .inl (.inr h)
theorem insB_names {σ : List (List UInt8 × Term)} {v : List UInt8} {t : Term} (h : look σ v = none) : (insB σ v t).map (·.1) = insertP (σ.map (·.1)) v := by
  unfold insB insertP
  have hn := look_isNone (σ := σ) (v := v) |>.1 (by rw [h]; rfl)
  split
  · rename_i he
    obtain ⟨b, hb, rfl⟩ := List.mem_map.1 (List.mem_of_getElem? he)
    exact absurd rfl (hn b hb)
  · simp [List.map_take, List.map_drop]
theorem insB_sorted {σ : List (List UInt8 × Term)} {v : List UInt8} {t : Term} (hs : SortedN (σ.map (·.1))) (h : look σ v = none) : SortedN ((insB σ v t).map (·.1)) := by
  rw [insB_names h]; exact insertP_sorted _ _ hs
theorem look_iff {σ : List (List UInt8 × Term)} (hs : SortedN (σ.map (·.1))) (v : List UInt8) (x : Term) : look σ v = some x ↔ (v, x) ∈ σ := ⟨look_some_mem, fun h => look_mem hs h⟩
theorem insB_look {σ : List (List UInt8 × Term)} {v : List UInt8} {t : Term} (hs : SortedN (σ.map (·.1))) (h : look σ v = none) (u : List UInt8) (x : Term) : look (insB σ v t) u = some x ↔ look σ u = some x ∨ (u = v ∧ x = t) := by
  rw [look_iff (insB_sorted hs h), mem_insB, look_iff hs, Prod.mk.injEq]
theorem insB_le {σ : List (List UInt8 × Term)} {v : List UInt8} {t : Term} (hs : SortedN (σ.map (·.1))) (h : look σ v = none) : subLe σ (insB σ v t) := fun u x hx => (insB_look hs h u x).2 (.inl hx)
def leafM (σ : List (List UInt8 × Term)) (n : List UInt8) (y : Term) : List (List UInt8 × Term) × Bool := match look σ n with
  | some x => (σ, decide (x = y))
  | none => (insB σ n y, true)
def clash (n : List UInt8) (k : Nat) (y : Term) : Bool := y.var || decide (n ≠ y.name) || decide (k ≠ y.args.length)
def matchTs : List Term → List Term → List (List UInt8 × Term) → List (List UInt8 × Term) × Bool
  | .mk n v xs :: r, y :: r', σ =>
    if v then (if (leafM σ n y).2 then matchTs r r' (leafM σ n y).1 else ((leafM σ n y).1, false))
    else if clash n xs.length y then (σ, false)
    else if (matchTs xs y.args σ).2 then matchTs r r' (matchTs xs y.args σ).1 else ((matchTs xs y.args σ).1, false)
  | _, _, σ => (σ, true)
def matchP (p t : Term) (σ : List (List UInt8 × Term)) : List (List UInt8 × Term) × Bool :=
  if p.var then leafM σ p.name t else if clash p.name p.args.length t then (σ, false) else matchTs p.args t.args σ
theorem matchTs_cons (p y : Term) (r r' : List Term) (σ : List (List UInt8 × Term)) : matchTs (p :: r) (y :: r') σ = if (matchP p y σ).2 then matchTs r r' (matchP p y σ).1 else ((matchP p y σ).1, false) := by
  cases p with
  | mk n v xs =>
    rw [matchTs]
    unfold matchP
    simp only [Term.name_mk, Term.var_mk, Term.args_mk]
    cases v with
    | true => simp
    | false =>
      by_cases hc : clash n xs.length y = true
      · simp [hc]
      · simp [hc]
theorem matchTs_nil (ys : List Term) (σ : List (List UInt8 × Term)) : matchTs [] ys σ = (σ, true) := by cases ys <;> simp [matchTs]
theorem matchTs_nil2 (xs : List Term) (σ : List (List UInt8 × Term)) : matchTs xs [] σ = (σ, true) := by
  cases xs with
  | nil => simp [matchTs]
  | cons a r => cases a; simp [matchTs]
theorem clash_false {n : List UInt8} {k : Nat} {y : Term} : clash n k y = false ↔ y.var = false ∧ n = y.name ∧ k = y.args.length := by
  unfold clash
  simp [and_assoc]
theorem matchP_v (n : List UInt8) (xs : List Term) (y : Term) (σ : List (List UInt8 × Term)) : matchP (.mk n true xs) y σ = leafM σ n y := by unfold matchP; exact if_pos rfl
theorem matchP_c {n : List UInt8} {xs : List Term} {y : Term} (σ : List (List UInt8 × Term)) (h : clash n xs.length y = true) : matchP (.mk n false xs) y σ = (σ, false) := by
  unfold matchP
  exact (if_neg (by simp [Term.var_mk])).trans (if_pos h)
theorem matchP_g {n : List UInt8} {xs : List Term} {y : Term} (σ : List (List UInt8 × Term)) (h : clash n xs.length y = false) : matchP (.mk n false xs) y σ = matchTs xs y.args σ := by
  unfold matchP
  exact (if_neg (by simp [Term.var_mk])).trans (if_neg (fun e => by rw [show clash (Term.mk n false xs).name (Term.mk n false xs).args.length y = clash n xs.length y from rfl, h] at e; cases e))
structure MatchOk (σ σ' : List (List UInt8 × Term)) (S : Term → Prop) : Prop where
  sorted : SortedN (σ'.map (·.1))
  le : subLe σ σ'
  new : ∀ b, b ∈ σ' → b ∈ σ ∨ S b.2
  len : σ.length ≤ σ'.length
theorem MatchOk.refl {σ : List (List UInt8 × Term)} {S : Term → Prop} (hs : SortedN (σ.map (·.1))) : MatchOk σ σ S := ⟨hs, subLe.refl σ, fun _ h => .inl h, Nat.le_refl _⟩
theorem MatchOk.trans {a b c : List (List UInt8 × Term)} {S : Term → Prop} (h1 : MatchOk a b S) (h2 : MatchOk b c S) : MatchOk a c S :=
  ⟨h2.sorted, h1.le.trans h2.le, fun x hx => by
    rcases h2.new x hx with h | h
    · exact h1.new x h
    · exact .inr h, Nat.le_trans h1.len h2.len⟩
theorem MatchOk.mono {a b : List (List UInt8 × Term)} {S S' : Term → Prop} (h : MatchOk a b S) (hS : ∀ x, S x → S' x) : MatchOk a b S' := ⟨h.sorted, h.le, fun x hx => (h.new x hx).imp id (hS _), h.len⟩
theorem SubT.self : ∀ t : Term, SubT t t := fun t => at_sub [] t t (by cases t; rfl)
theorem leaf_ok {σ : List (List UInt8 × Term)} (hs : SortedN (σ.map (·.1))) (n : List UInt8) (y : Term) : MatchOk σ (leafM σ n y).1 (fun x => x = y) ∧ (leafM σ n y).1.length ≤ σ.length + 1 := by
  unfold leafM
  split
  · exact ⟨MatchOk.refl hs, by simp⟩
  · rename_i h
    exact ⟨⟨insB_sorted hs h, insB_le hs h, fun b hb => by
      rcases (mem_insB b).1 hb with h | h
      · exact .inl h
      · exact .inr (by rw [h]), by simp [insB_length]⟩, by simp [insB_length]⟩
theorem SubT.arg_of {y x a : Term} (ha : a ∈ y.args) (h : SubT a x) : SubT y x := by
  cases y with
  | mk n v xs => exact .arg ha h
theorem matchTs_ok : ∀ (xs ys : List Term) (σ : List (List UInt8 × Term)), SortedN (σ.map (·.1)) →
    MatchOk σ (matchTs xs ys σ).1 (fun x => ∃ y, y ∈ ys ∧ SubT y x) ∧ (matchTs xs ys σ).1.length ≤ σ.length + (xs.map Term.size).sum
  | [], ys, σ, hs => by rw [matchTs_nil]; exact ⟨MatchOk.refl hs, by simp⟩
  | .mk n u xs :: r, [], σ, hs => by rw [matchTs_nil2]; exact ⟨MatchOk.refl hs, by simp⟩
  | .mk n u xs :: r, y :: r', σ, hs => by
    have one : MatchOk σ (matchP (.mk n u xs) y σ).1 (fun x => SubT y x) ∧ (matchP (.mk n u xs) y σ).1.length ≤ σ.length + (Term.mk n u xs).size := by
      cases u with
      | true =>
        obtain ⟨h1, h2⟩ := leaf_ok hs n y
        rw [matchP_v]
        exact ⟨h1.mono fun x hx => by rw [hx]; exact SubT.self y, by rw [Term.size_mk]; omega⟩
      | false =>
        cases hc : clash n xs.length y with
        | true => rw [matchP_c σ hc]; exact ⟨MatchOk.refl hs, by simp⟩
        | false =>
          rw [matchP_g σ hc]
          obtain ⟨h1, h2⟩ := matchTs_ok xs y.args σ hs
          exact ⟨h1.mono fun x ⟨a, ha, hx⟩ => SubT.arg_of ha hx, by rw [Term.size_mk]; omega⟩
    obtain ⟨h1, h2⟩ := one
    have h1' : MatchOk σ (matchP (.mk n u xs) y σ).1 (fun x => ∃ z, z ∈ y :: r' ∧ SubT z x) := h1.mono fun x hx => ⟨y, by simp, hx⟩
    rw [matchTs_cons]
    cases (matchP (.mk n u xs) y σ).2 with
    | false => simp only [Bool.false_eq_true, if_false, List.map_cons, List.sum_cons]; exact ⟨h1', by omega⟩
    | true =>
      obtain ⟨g1, g2⟩ := matchTs_ok r r' (matchP (.mk n u xs) y σ).1 h1.sorted
      simp only [if_true, List.map_cons, List.sum_cons]
      exact ⟨h1'.trans (g1.mono fun x ⟨z, hz, hx⟩ => ⟨z, by simp [hz], hx⟩), by omega⟩
theorem matchP_ok (p t : Term) (σ : List (List UInt8 × Term)) (hs : SortedN (σ.map (·.1))) : MatchOk σ (matchP p t σ).1 (fun x => SubT t x) ∧ (matchP p t σ).1.length ≤ σ.length + p.size := by
  obtain ⟨h1, h2⟩ := matchTs_ok [p] [t] σ hs
  have e : (matchTs [p] [t] σ).1 = (matchP p t σ).1 := by
    rw [matchTs_cons, matchTs_nil]
    cases h : (matchP p t σ).2 <;> simp
  rw [e] at h1 h2
  exact ⟨h1.mono fun x ⟨z, hz, hx⟩ => by rw [List.mem_singleton] at hz; rw [← hz]; exact hx, by simpa using h2⟩
end Ab
set_option maxRecDepth 10000
namespace Ab
open Go Go.Proofs
theorem ins_at {σ : List (List UInt8 × Term)} {v : List UInt8} {i : Nat} (hi : i ≤ σ.length) (h1 : ∀ j (hj : j < σ.length), j < i → Lib.compareBytes σ[j].1 v < 0) (h2 : ∀ j (hj : j < σ.length), i ≤ j → ¬ Lib.compareBytes σ[j].1 v < 0) : insAt (σ.map (·.1)) v = i := by
  unfold insAt
  induction σ generalizing i with
  | nil => simp at hi ⊢; omega
  | cons a r ih =>
    cases i with
    | zero =>
      have := h2 0 (by simp) (by omega)
      simp only [List.getElem_cons_zero] at this
      simp [List.takeWhile_cons, this]
    | succ i =>
      have h0 := h1 0 (by simp) (by omega)
      simp only [List.getElem_cons_zero] at h0
      rw [List.map_cons, List.takeWhile_cons, if_pos (by simpa using h0), List.length_cons]
      rw [ih (i := i) (by simpa using hi) (fun j hj hji => by have := h1 (j + 1) (by simp; omega) (by omega); simpa using this) (fun j hj hji => by have := h2 (j + 1) (by simp; omega) (by omega); simpa using this)]
theorem searchX_ac (k : Nat) (xs : List (List UInt8 × Term)) (v : List UInt8) (g : Nat) (caps : List AV) (c : List UInt8 × Term → Int) (H : List AObj) (hk : H[k]? = some (grO 86 4 (encL encBd xs))) (hlen : xs.length < 1099511627776) (hg : callOk Tryz.prog g = true) (hsc : ScopedL H.length caps)
    (hmono : ∀ i j (hi : i < xs.length) (hj : j < xs.length), i ≤ j → c xs[j] < 0 → c xs[i] < 0)
    (hf : ∀ i (h : i < xs.length) X, ACall Tryz.prog g (encBd xs[i] :: .str v :: caps) X (fun r H' => r = .int .i64 (c xs[i]) ∧ H' = X)) :
    ACall Tryz.prog 145 [grS k (encL encBd xs), .str v, .fn g caps] H
      (fun r H' => ∃ i : Nat, i ≤ xs.length ∧ (∀ j (hj : j < xs.length), j < i → c xs[j] < 0) ∧ (∀ j (hj : j < xs.length), i ≤ j → ¬ c xs[j] < 0) ∧ r = .tup [.int .i64 i, .bool (decide (∃ h : i < xs.length, c xs[i] = 0))] ∧ H' = H) := by
  by_cases hne : xs = []
  · subst hne
    exact ACall.forget (args' := [.sl .none (encL encBd []), .str v, .fn g caps]) ⟨Forget.tok _ _, Forget.refl _, Forget.refl _, trivial⟩ (searchB_ac [] v g caps c H hlen hg hsc hmono hf)
  · exact searchG_ac k xs hne v g caps c H hk hlen hg hsc hmono hf
theorem bindC_ac (x : List UInt8 × Term) (v : List UInt8) (H : List AObj) : ACall Tryz.prog 163 [encBd x, .str v] H (fun r H' => r = .int .i64 (Lib.compareBytes x.1 v) ∧ H' = H) := by
  refine ACall_V (H.length) 7 [.tmp 4] Tryz.func163 rfl rfl rfl ?_
  simp only [push_cast, Nat.reduceAdd, Nat.reduceSub, Nat.reduceMul, Nat.reduceLT, Nat.reduceLeDiff, Nat.reduceEqDiff, Int.reduceToNat, ↓reduceIte]
  refine (compareStr_ac x.1 v _).to ?_
  simp only [push_cast, Nat.reduceAdd, Nat.reduceSub, Nat.reduceMul, Nat.reduceLT, Nat.reduceLeDiff, Nat.reduceEqDiff, Int.reduceToNat, ↓reduceIte]
theorem setA {H L : List AObj} {k : Nat} (o : AObj) (hk : k < H.length) : (H ++ L).set k o = H.set k o ++ L := List.set_append_left _ _ hk
theorem ins_finA {H L : List AObj} {k : Nat} (hkl : k < H.length) (l : List (List UInt8 × Term)) : OutOk H (H.set k (grO 86 4 (encL encBd l)) ++ L) H.length ∧ Scoped H.length (strip H.length (grS k (encL encBd l))) ∧ strip H.length (grS k (encL encBd l)) = grS k (encL encBd l) ∧ (H.set k (grO 86 4 (encL encBd l)) ++ L).take H.length = H.set k (grO 86 4 (encL encBd l)) := by
  obtain ⟨h1, h2, h3, h4⟩ := ins_fin hkl l
  refine ⟨?_, h2, h3, List.take_left' (by simp)⟩
  obtain ⟨a, b, c⟩ := h1
  refine ⟨by simp, b, fun j hj => ?_⟩
  have := c j hj
  rwa [List.getElem?_append_left (by simpa using hj)]
theorem bind_ac (k : Nat) (σ : List (List UInt8 × Term)) (hs : SortedN (σ.map (·.1))) (v : List UInt8) (t : Term) (hlen : σ.length < 1099511627775) (H : List AObj) (hk : H[k]? = some (grO 86 4 (encL encBd σ))) :
    ACall Tryz.prog 144 [grS k (encL encBd σ), .str v, encT t] H (fun r H' => r = grS k (encL encBd (insB σ v t)) ∧ H' = H.set k (grO 86 4 (encL encBd (insB σ v t)))) := by
  have hkl := (List.getElem?_eq_some_iff.1 hk).1
  have hk1 : ∀ L : List AObj, (H ++ L)[k]? = some (grO 86 4 (encL encBd σ)) := fun L => getD_app _ _ _ hk
  refine ACall_W (H.length) 19 [.tmp 6] Tryz.func144 rfl rfl rfl ?_
  simp only [push_cast, Nat.reduceAdd, Nat.reduceSub, Nat.reduceMul, Nat.reduceLT, Nat.reduceLeDiff, Nat.reduceEqDiff, Int.reduceToNat, ↓reduceIte]
  refine (searchX_ac k σ v 163 [] (fun b => Lib.compareBytes b.1 v) _ (hk1 _) (by omega) ok163 (by simp [ScopedL]) (fun i j hi hj hij hc => ?_) (fun i h X => bindC_ac _ v _)).mono ?_
  · rcases Nat.lt_or_eq_of_le hij with h | h
    · exact cb_trans _ _ _ (sortedS_get hs i j hi hj h) hc
    · subst h; exact hc
  rintro r H' ⟨i, h1, h2, h3, rfl, rfl⟩
  have hi := ins_at h1 h2 h3
  simp only [push_cast, Nat.reduceAdd, Nat.reduceSub, Nat.reduceMul, Nat.reduceLT, Nat.reduceLeDiff, Nat.reduceEqDiff, Int.reduceToNat, ↓reduceIte]
  refine (ins_ac k σ (v, t) _ i h1 hlen _ (hk1 _)).mono ?_
  rintro r H' ⟨rfl, rfl⟩
  have e : insB σ v t = σ.take i ++ [(v, t)] ++ σ.drop i := by unfold insB; rw [hi]
  rw [setA _ hkl, ← e]
  simp only [push_cast, Nat.reduceAdd, Nat.reduceSub, Nat.reduceMul, Nat.reduceLT, Nat.reduceLeDiff, Nat.reduceEqDiff, Int.reduceToNat, ↓reduceIte]
  exact ins_finA hkl _
def mH (G : List AObj) (m k : Nat) (σ : List (List UInt8 × Term)) : List AObj := (G.set m (.cells [grS k (encL encBd σ)])).set k (grO 86 4 (encL encBd σ))
theorem mH_len (G : List AObj) (m k : Nat) (σ : List (List UInt8 × Term)) : (mH G m k σ).length = G.length := by simp [mH]
theorem mH_app {G : List AObj} (L : List AObj) {m k : Nat} (hm : m < G.length) (hk : k < G.length) (σ : List (List UInt8 × Term)) : mH (G ++ L) m k σ = mH G m k σ ++ L := by
  unfold mH
  rw [setA _ hm, setA _ (by simpa using hk)]
theorem mH_k {G : List AObj} {m k : Nat} (hk : k < G.length) (σ : List (List UInt8 × Term)) (L : List AObj) : (mH G m k σ ++ L)[k]? = some (grO 86 4 (encL encBd σ)) := by
  refine getD_app _ _ _ ?_
  unfold mH
  simp [hk]
theorem mH_m {G : List AObj} {m k : Nat} (hm : m < G.length) (hne : k ≠ m) (σ : List (List UInt8 × Term)) (L : List AObj) : (mH G m k σ ++ L)[m]? = some (.cells [grS k (encL encBd σ)]) := by
  refine getD_app _ _ _ ?_
  unfold mH
  simp [hm, hne]
theorem mH_mk {G : List AObj} {m k : Nat} (hm : m < G.length) (hne : k ≠ m) (σ : List (List UInt8 × Term)) (L : List AObj) (o : AObj) : ((mH G m k σ ++ L).set k o)[m]? = some (.cells [grS k (encL encBd σ)]) := by
  rw [List.getElem?_set_ne hne]; exact mH_m hm hne σ L
theorem mH_st {G : List AObj} {m k : Nat} (hm : m < G.length) (hk : k < G.length) (hne : k ≠ m) (σ τ : List (List UInt8 × Term)) (L : List AObj) : ((mH G m k σ ++ L).set k (grO 86 4 (encL encBd τ))).set m (.cells [grS k (encL encBd τ)]) = mH G m k τ ++ L := by
  have e : (mH G m k σ ++ L).set k (grO 86 4 (encL encBd τ)) = (mH G m k σ).set k (grO 86 4 (encL encBd τ)) ++ L := setA _ (by rw [mH_len]; exact hk)
  rw [e, setA _ (by rw [List.length_set, mH_len]; exact hm)]
  congr 1
  unfold mH
  rw [List.set_set, List.set_comm _ _ hne, List.set_set]
theorem mH_g0 (G : List AObj) (m k : Nat) (σ : List (List UInt8 × Term)) (x : AObj) (L : List AObj) : (mH G m k σ ++ x :: L)[G.length]? = some x := by
  have := aget0 (mH G m k σ) L x
  rwa [mH_len] at this
theorem mH_gN (G : List AObj) (m k : Nat) (σ : List (List UInt8 × Term)) (L : List AObj) (i : Nat) : (mH G m k σ ++ L)[G.length + i]? = L[i]? := by
  have := agetN (mH G m k σ) L i
  rwa [mH_len] at this
theorem mH_sN (G : List AObj) (m k : Nat) (σ : List (List UInt8 × Term)) (L : List AObj) (i : Nat) (o : AObj) : (mH G m k σ ++ L).set (G.length + i) o = mH G m k σ ++ L.set i o := by
  rw [List.set_append_right _ _ (by rw [mH_len]; omega), mH_len, Nat.add_sub_cancel_left]
theorem mH_tk (G : List AObj) (m k : Nat) (σ : List (List UInt8 × Term)) (L : List AObj) (i : Nat) : (mH G m k σ ++ L).take (G.length + i) = mH G m k σ ++ L.take i := by
  have := takeAN' (mH G m k σ) L i
  rwa [mH_len] at this
theorem mH_t0 (G : List AObj) (m k : Nat) (σ : List (List UInt8 × Term)) (L : List AObj) : (mH G m k σ ++ L).take G.length = mH G m k σ := by
  have := takeA0' (mH G m k σ) L
  rwa [mH_len] at this
theorem mH_ok {G : List AObj} {m k : Nat} (hm : m < G.length) (hk : k < G.length) (σ τ : List (List UInt8 × Term)) (L : List AObj) (j : Nat) (h : scT (G.length + j) j L) : OutOk (mH G m k σ) (mH G m k τ ++ L) (G.length + j) = True := by
  obtain ⟨h1, h2⟩ := scT_spec h
  refine eq_true ⟨by rw [List.length_append, mH_len]; omega, by rw [mH_len]; omega, fun q hq => ?_⟩
  rcases Nat.lt_or_ge q G.length with hg | hg
  · rw [List.getElem?_append_left (by rw [mH_len]; exact hg)]
    by_cases e1 : q = k
    · subst e1
      exact .inr ⟨grO 86 4 (encL encBd τ), by unfold mH; simp [hg], osc_grB _ _ _⟩
    · by_cases e2 : q = m
      · subst e2
        refine .inr ⟨.cells [grS k (encL encBd τ)], by unfold mH; rw [List.getElem?_set_ne (fun h => e1 h.symm)]; simp [hg], ?_⟩
        have h3 : Scoped (G.length + j) (grS k (encL encBd τ)) := of_eq_true (sc_grS (G.length + j) k (encL encBd τ) (by omega))
        show ScopedL _ [_]
        exact ⟨h3, trivial⟩
      · refine .inl ⟨by rw [mH_len]; exact hg, ?_⟩
        unfold mH
        rw [List.getElem?_set_ne (fun h => e1 h.symm), List.getElem?_set_ne (fun h => e2 h.symm), List.getElem?_set_ne (fun h => e1 h.symm), List.getElem?_set_ne (fun h => e2 h.symm)]
  · rw [List.getElem?_append_right (by rw [mH_len]; exact hg)]
    simp only [mH_len]
    have hq2 : q - G.length < L.length := by omega
    refine .inr ⟨L[q - G.length], List.getElem?_eq_getElem hq2, h2 _ ?_⟩
    rw [List.mem_iff_getElem]
    exact ⟨q - G.length, by rw [List.length_take]; omega, by simp⟩
theorem mH_ok0 {G : List AObj} {m k : Nat} (hm : m < G.length) (hk : k < G.length) (σ τ : List (List UInt8 × Term)) (L : List AObj) : OutOk (mH G m k σ) (mH G m k τ ++ L) G.length = True := mH_ok hm hk σ τ L 0 (of_eq_true (scT_0 _ _))
theorem callG {f : Nat} {args : List AV} {G : List AObj} {m k : Nat} (hm : m < G.length) (hk : k < G.length) {σ τ : List (List UInt8 × Term)} {L : List AObj} {v : AV} {K : AV → List AObj → Prop}
    (h : ACall Tryz.prog f args (mH (G ++ L) m k σ) (fun r H' => r = v ∧ H' = mH (G ++ L) m k τ)) (hK : K v (mH G m k τ ++ L)) : ACall Tryz.prog f args (mH G m k σ ++ L) K := by
  rw [mH_app L hm hk] at h
  refine h.mono ?_
  rintro r H' ⟨rfl, rfl⟩
  rw [mH_app L hm hk]; exact hK
theorem mH_0 (G : List AObj) (m k : Nat) (σ : List (List UInt8 × Term)) : (mH G m k σ).take G.length = mH G m k σ := List.take_of_length_le (by rw [mH_len]; exact Nat.le_refl _)
attribute [push_cast] mH_len mH_g0 mH_gN mH_sN mH_tk mH_t0 mH_0
theorem SubT.bulk {s t : Term} (h : SubT s t) : t.bulk ≤ s.bulk := by
  induction h with
  | refl => exact Nat.le_refl _
  | arg ha _ ih => exact Nat.le_trans ih (Nat.le_of_lt (Term.arg_le ha))
theorem matchTs_split : ∀ (a a' b b' : List Term) (σ : List (List UInt8 × Term)), a.length = a'.length → matchTs (a ++ b) (a' ++ b') σ = if (matchTs a a' σ).2 then matchTs b b' (matchTs a a' σ).1 else ((matchTs a a' σ).1, false)
  | [], [], b, b', σ, _ => by rw [matchTs_nil]; simp
  | [], _ :: _, _, _, _, h => by simp at h
  | _ :: _, [], _, _, _, h => by simp at h
  | x :: r, y :: r', b, b', σ, h => by
    rw [List.cons_append, List.cons_append, matchTs_cons, matchTs_cons]
    cases hq : (matchP x y σ).2 with
    | false => simp
    | true =>
      simp only [if_true]
      exact matchTs_split r r' b b' _ (by simpa using h)
theorem matchTs_one (x y : Term) (σ : List (List UInt8 × Term)) : matchTs [x] [y] σ = matchP x y σ := by
  rw [matchTs_cons, matchTs_nil]
  cases h : (matchP x y σ).2 with
  | true => simp only [if_true]; rw [← h]
  | false => simp only [Bool.false_eq_true, if_false]; rw [← h]
theorem matchTs_take {xs ys : List Term} {σ : List (List UInt8 × Term)} (i : Nat) (h1 : i < xs.length) (h2 : i < ys.length) (h : (matchTs (xs.take i) (ys.take i) σ).2 = true) : matchTs (xs.take (i + 1)) (ys.take (i + 1)) σ = matchP xs[i] ys[i] (matchTs (xs.take i) (ys.take i) σ).1 := by
  rw [List.take_succ_eq_append_getElem h1, List.take_succ_eq_append_getElem h2, matchTs_split _ _ _ _ _ (by rw [List.length_take, List.length_take]; omega), h]
  simp only [if_true]
  exact matchTs_one _ _ _
theorem matchTs_bad {xs ys : List Term} {σ : List (List UInt8 × Term)} (i : Nat) (h1 : i < xs.length) (h2 : i < ys.length) (h : (matchTs (xs.take i) (ys.take i) σ).2 = true) (h3 : (matchP xs[i] ys[i] (matchTs (xs.take i) (ys.take i) σ).1).2 = false) : matchTs xs ys σ = matchP xs[i] ys[i] (matchTs (xs.take i) (ys.take i) σ).1 := by
  have e := matchTs_take i h1 h2 h
  have hs := matchTs_split (xs.take (i + 1)) (ys.take (i + 1)) (xs.drop (i + 1)) (ys.drop (i + 1)) σ (by rw [List.length_take, List.length_take]; omega)
  rw [List.take_append_drop, List.take_append_drop, e, h3] at hs
  rw [hs]
  simp only [Bool.false_eq_true, if_false]
  rw [← h3]
end Ab
set_option maxRecDepth 10000
namespace Ab
open Go Go.Proofs
theorem match_ac (p : Term) : ∀ (t : Term) (σ : List (List UInt8 × Term)), SortedN (σ.map (·.1)) → p.bulk ≤ 1099511627775 → t.bulk ≤ 1099511627775 → (∀ b, b ∈ σ → b.2.bulk ≤ 1099511627775) → σ.length + p.size < 1099511627775 →
    ∀ (G : List AObj) (m k : Nat), m < G.length → k < G.length → k ≠ m → ACall Tryz.prog 115 [.ptr m 0, encT p, encT t] (mH G m k σ) (fun r H' => r = .bool (matchP p t σ).2 ∧ H' = mH G m k (matchP p t σ).1) := by
  induction p using Term.ind with | _ n u xs ih
  intro t σ hs hb hb2 hb3 hl G m k hm hk hne
  obtain ⟨n2, u2, ys⟩ := t
  have hlx := Term.len_le (n := n) (v := u) (xs := xs)
  have hly := Term.len_le (n := n2) (v := u2) (xs := ys)
  have hz := Term.size_mk n u xs
  have hkm := fun L => mH_k (m := m) hk σ L
  have hmm := fun L => mH_m hm hne σ L
  have hok := fun τ L j => mH_ok hm hk σ τ L j
  have hok0 := fun τ L => mH_ok0 hm hk σ τ L
  refine ACall_W (G.length) 72 [.tmp 6] Tryz.func115 rfl rfl rfl ?_
  cases u with
  | true =>
    rw [matchP_v]
    simp only [push_cast, Nat.reduceAdd, Nat.reduceSub, Nat.reduceMul, Nat.reduceLT, Nat.reduceLeDiff, Nat.reduceEqDiff, Int.reduceToNat, ↓reduceIte]
    cases hlk : look σ n with
    | some x =>
      have hx := hb3 (n, x) (look_some_mem hlk)
      have e : leafM σ n (.mk n2 u2 ys) = (σ, decide (x = .mk n2 u2 ys)) := by unfold leafM; rw [hlk]
      apply AW_drawE [some 13, some 14, some 15, some 16, some 17, some 18, some 19, some 12, some 20, some 21, some 7, none, some 8] [([false, false], _), ([true, false], _), ([true, true], _)] [none, none, none, none, none, none, none, none, none, none, some 0, some 1, none] 2 [(0, [false, false], [0]), (1, [false, false], [13]), (2, [false, false], [14]), (3, [false, false], [15]), (4, [false, false], [4]), (5, [false, false], [17]), (6, [false, false], [16, 1]), (7, [false, false], [19]), (8, [false, false], [12]), (9, [false, false], [12]), (10, [false, false], []), (11, [true, false], [7, 12]), (12, [true, true], [21]), (0, [true, false], [0]), (1, [true, false], [13]), (2, [true, false], [14]), (3, [true, false], [15]), (4, [true, false], [4]), (5, [true, false], [17]), (6, [true, false], [16, 1]), (7, [true, false], [19]), (8, [true, false], [12]), (9, [true, false], [12]), (9, [true, true], [12])] [_, _, _, _, _, _, _, _, _, _, _, _, _]
      case' hm => exact dr
      case' hn => rfl
      case' hok => rfl
      case' hlen => rfl
      case' hd => rfl
      case' h0 => rfl
      case' hstep =>
       simp only [DAllG, push_cast, Option.isSome_some, Option.isSome_none]
       repeat' apply And.intro
       all_goals (apply DOne_V; simp only [push_cast, Nat.reduceAdd, Nat.reduceSub, Nat.reduceMul, Nat.reduceLT, Nat.reduceLeDiff, Nat.reduceEqDiff, Int.reduceToNat, ↓reduceIte, hkm, hmm] <;> first | exact rfl | omega | exact ⟨rfl, rfl⟩ | exact trivial | exact ⟨by omega, rfl⟩ | exact ⟨by omega, by omega, rfl⟩ | exact ⟨by omega, rfl, rfl⟩ | exact ⟨by omega, by omega, rfl, rfl⟩ | exact (imageG_ac k σ hs n (by omega) _ (hkm _)).to ⟨rfl, rfl⟩)
      case' hQ => skip
      simp only [push_cast, Nat.reduceAdd, Nat.reduceSub, Nat.reduceMul, Nat.reduceLT, Nat.reduceLeDiff, Nat.reduceEqDiff, Int.reduceToNat, ↓reduceIte, hlk, Option.isSome_some, Option.getD_some]
      refine (equal_ac x (.mk n2 u2 ys) hx hb2 _).to ?_
      simp only [push_cast, Nat.reduceAdd, Nat.reduceSub, Nat.reduceMul, Nat.reduceLT, Nat.reduceLeDiff, Nat.reduceEqDiff, Int.reduceToNat, ↓reduceIte, e, hok0]
    | none =>
      have e : leafM σ n (.mk n2 u2 ys) = (insB σ n (.mk n2 u2 ys), true) := by unfold leafM; rw [hlk]
      have hst := fun L => mH_st hm hk hne σ (insB σ n (.mk n2 u2 ys)) L
      have hmk := fun L o => mH_mk hm hne σ L o
      apply AW_drawE [some 13, some 14, some 15, some 16, some 17, some 18, some 19, some 12, some 20, some 21, some 7, none, some 8] [([false, false], _), ([true, false], _), ([true, true], _)] [none, none, none, none, none, none, none, none, none, none, some 0, some 1, none] 2 [(0, [false, false], [0]), (1, [false, false], [13]), (2, [false, false], [14]), (3, [false, false], [15]), (4, [false, false], [4]), (5, [false, false], [17]), (6, [false, false], [16, 1]), (7, [false, false], [19]), (8, [false, false], [12]), (9, [false, false], [12]), (10, [false, false], []), (11, [true, false], [7, 12]), (12, [true, true], [21]), (0, [true, false], [0]), (1, [true, false], [13]), (2, [true, false], [14]), (3, [true, false], [15]), (4, [true, false], [4]), (5, [true, false], [17]), (6, [true, false], [16, 1]), (7, [true, false], [19]), (8, [true, false], [12]), (9, [true, false], [12]), (9, [true, true], [12])] [_, _, _, _, _, _, _, _, _, _, _, _, _]
      case' hm => exact dr
      case' hn => rfl
      case' hok => rfl
      case' hlen => rfl
      case' hd => rfl
      case' h0 => rfl
      case' hstep =>
       simp only [DAllG, push_cast, Option.isSome_some, Option.isSome_none]
       repeat' apply And.intro
       all_goals (apply DOne_V; simp only [push_cast, Nat.reduceAdd, Nat.reduceSub, Nat.reduceMul, Nat.reduceLT, Nat.reduceLeDiff, Nat.reduceEqDiff, Int.reduceToNat, ↓reduceIte, hkm, hmm] <;> first | exact rfl | omega | exact ⟨rfl, rfl⟩ | exact trivial | exact ⟨by omega, rfl⟩ | exact ⟨by omega, by omega, rfl⟩ | exact ⟨by omega, rfl, rfl⟩ | exact ⟨by omega, by omega, rfl, rfl⟩ | exact (imageG_ac k σ hs n (by omega) _ (hkm _)).to ⟨rfl, rfl⟩)
      case' hQ => skip
      simp only [push_cast, Nat.reduceAdd, Nat.reduceSub, Nat.reduceMul, Nat.reduceLT, Nat.reduceLeDiff, Nat.reduceEqDiff, Int.reduceToNat, ↓reduceIte, hlk, Option.isSome_none, Option.getD_none]
      apply AW_drawE [some 26, some 27, some 28, some 29, some 30, some 31, some 32, some 33, some 34, some 35, some 36, none] [([false, false], _), ([true, false], _), ([true, true], _)] [none, none, none, none, none, none, none, none, some 0, none, none, some 1] 2 [(0, [false, false], [0]), (1, [false, false], [0]), (2, [false, false], [27]), (3, [false, false], [28]), (4, [false, false], [29]), (5, [false, false], [4]), (6, [false, false], [31]), (7, [false, false], [5]), (8, [false, false], [30, 1, 0]), (9, [true, false], [26]), (10, [true, false], [35]), (11, [true, false], [34, 1]), (0, [true, false], [0]), (1, [true, false], [0]), (2, [true, false], [27]), (3, [true, false], [28]), (5, [true, false], [4]), (9, [true, true], [26])] [_, _, _, _, _, _, _, _, _, _, _, _]
      case' hm => exact dr
      case' hn => rfl
      case' hok => rfl
      case' hlen => rfl
      case' hd => rfl
      case' h0 => rfl
      case' hstep =>
       simp only [DAllG, push_cast, Option.isSome_some, Option.isSome_none]
       repeat' apply And.intro
       all_goals (apply DOne_V; simp only [push_cast, Nat.reduceAdd, Nat.reduceSub, Nat.reduceMul, Nat.reduceLT, Nat.reduceLeDiff, Nat.reduceEqDiff, Int.reduceToNat, ↓reduceIte, hkm, hmm, hmk] <;> first | exact rfl | omega | exact ⟨rfl, rfl⟩ | exact trivial | exact ⟨by omega, rfl⟩ | exact ⟨by omega, by omega, rfl⟩ | exact ⟨by omega, rfl, rfl⟩ | exact ⟨by omega, by omega, rfl, rfl⟩ | exact (bind_ac k σ hs n (.mk n2 u2 ys) (by omega) _ (hkm _)).to ⟨rfl, rfl⟩)
      case' hQ => skip
      simp only [push_cast, Nat.reduceAdd, Nat.reduceSub, Nat.reduceMul, Nat.reduceLT, Nat.reduceLeDiff, Nat.reduceEqDiff, Int.reduceToNat, ↓reduceIte, hst, e, hok0]
  | false =>
    simp only [push_cast, Nat.reduceAdd, Nat.reduceSub, Nat.reduceMul, Nat.reduceLT, Nat.reduceLeDiff, Nat.reduceEqDiff, Int.reduceToNat, ↓reduceIte]
    cases u2 with
    | true =>
      have e : matchP (.mk n false xs) (.mk n2 true ys) σ = (σ, false) := matchP_c σ (by simp [clash, Term.var_mk])
      refine cI (fun _ => ?_) (fun h => absurd rfl h)
      simp only [push_cast, Nat.reduceAdd, Nat.reduceSub, Nat.reduceMul, Nat.reduceLT, Nat.reduceLeDiff, Nat.reduceEqDiff, Int.reduceToNat, ↓reduceIte, e, hok0]
    | false =>
      refine cI (fun h => absurd h (by decide)) (fun _ => ?_)
      refine cI (fun hn => ?_) (fun hn => ?_)
      · subst hn
        refine cI (fun hq => ?_) (fun hq => ?_)
        · have hlen : xs.length = ys.length := by omega
          have hc : clash n xs.length (.mk n false ys) = false := clash_false.2 ⟨rfl, rfl, hlen⟩
          have eg : matchP (.mk n false xs) (.mk n false ys) σ = matchTs xs ys σ := matchP_g σ hc
          rw [eg]
          refine AW_loopW (maskG 75 [0, 3, 0, 51, 0]) (fun (i : Nat) => [(58, .int .i64 i)]) (fun i => mH G m k (matchTs (xs.take i) (ys.take i) σ).1 ++ [.cells [.str n, .bool false, .sl .none (encTs xs)], .cells [.str n, .bool false, .sl .none (encTs ys)]]) (fun i => i ≤ xs.length ∧ (matchTs (xs.take i) (ys.take i) σ).2 = true) (fun i => xs.length - i) 0 ⟨Nat.zero_le _, by rw [List.take_zero, matchTs_nil]⟩ (by simp only [push_cast, Nat.reduceAdd, Nat.reduceSub, Nat.reduceMul, Nat.reduceLT, Nat.reduceLeDiff, Nat.reduceEqDiff, Int.reduceToNat, ↓reduceIte, List.take_zero, matchTs_nil, hok]; omega) (fun i hi => ?_)
          simp only [push_cast, Nat.reduceAdd, Nat.reduceSub, Nat.reduceMul, Nat.reduceLT, Nat.reduceLeDiff, Nat.reduceEqDiff, Int.reduceToNat, ↓reduceIte]
          refine cI (fun h => ?_) (fun h => ?_)
          · have hix : i < xs.length := by omega
            have hiy : i < ys.length := by omega
            repeat refine ⟨by omega, ?_⟩
            obtain ⟨o1, o2⟩ := matchTs_ok (xs.take i) (ys.take i) σ hs
            have hsum := take_sum_le Term.size xs i
            have hxi := le_sum Term.size (xs.drop i) xs[i] (by rw [List.drop_eq_getElem_cons hix]; exact List.mem_cons_self)
            have hsm : ((xs.take i).map Term.size).sum + ((xs.drop i).map Term.size).sum = (xs.map Term.size).sum := by rw [← List.sum_append, ← List.map_append, List.take_append_drop]
            have hstep := fun L => ih _ (List.getElem_mem hix) ys[i] (matchTs (xs.take i) (ys.take i) σ).1 o1.sorted (arg_bulk hb i hix) (arg_bulk hb2 i hiy) (fun b hb' => by
              rcases o1.new b hb' with h | ⟨y, hy, h⟩
              · exact hb3 b h
              · have h5 := h.bulk
                have h6 := Term.arg_le (n := n) (v := false) (List.mem_of_mem_take hy)
                omega) (by omega) (G ++ L) m k (by rw [List.length_append]; omega) (by rw [List.length_append]; omega) hne
            have et := matchTs_take i hix hiy hi.2
            apply AW_drawE [some 61, some 62, some 63, some 64, some 65, some 66, some 67, some 68, some 69, some 70, some 71, some 72, some 73] [([false], _), ([true], _)] [none, none, none, none, none, none, none, none, none, none, none, some 0, none] 1 [(0, [false], [0]), (1, [false], [4]), (2, [false], [62]), (3, [false], [9]), (4, [false], [63, 0]), (5, [false], [65]), (6, [false], [5]), (7, [false], [67]), (8, [false], [9]), (9, [false], [68, 0]), (10, [false], [70]), (11, [false], [61, 4, 4]), (12, [true], [72]), (1, [true], [4]), (2, [true], [62]), (3, [true], [9]), (4, [true], [63, 0]), (6, [true], [5]), (7, [true], [67]), (8, [true], [9]), (9, [true], [68, 0])] [_, _, _, _, _, _, _, _, _, _, _, _, _]
            case' hm => exact dr
            case' hn => rfl
            case' hok => rfl
            case' hlen => rfl
            case' hd => rfl
            case' h0 => rfl
            case' hstep =>
             simp only [DAllG, push_cast, Option.isSome_some, Option.isSome_none]
             repeat' apply And.intro
             all_goals (apply DOne_V; simp only [push_cast, Nat.reduceAdd, Nat.reduceSub, Nat.reduceMul, Nat.reduceLT, Nat.reduceLeDiff, Nat.reduceEqDiff, Int.reduceToNat, ↓reduceIte] <;> first | exact rfl | omega | exact ⟨rfl, rfl⟩ | exact trivial | exact ⟨by omega, rfl⟩ | exact ⟨by omega, by omega, rfl⟩ | exact ⟨by omega, rfl, rfl⟩ | exact ⟨by omega, by omega, rfl, rfl⟩ | exact ⟨by omega, trivial⟩ | (refine callG hm hk (hstep _) ?_; exact ⟨rfl, rfl⟩))
            case' hQ => skip
            simp only [push_cast, Nat.reduceAdd, Nat.reduceSub, Nat.reduceMul, Nat.reduceLT, Nat.reduceLeDiff, Nat.reduceEqDiff, Int.reduceToNat, ↓reduceIte]
            refine cI (fun hq => ?_) (fun hq => ?_)
            · repeat' first | refine ⟨by omega, ?_⟩ | refine cI (fun _ => ?_) (fun _ => ?_)
              refine loopW_n (i + 1) ⟨by omega, by rw [et]; exact hq⟩ (by omega) ?_
              rw [et]
              simp only [push_cast, Nat.reduceAdd, Nat.reduceSub, Nat.reduceMul, Nat.reduceLT, Nat.reduceLeDiff, Nat.reduceEqDiff, Int.reduceToNat, ↓reduceIte, hok]
              omega
            · have hq : (matchP xs[i] ys[i] (matchTs (xs.take i) (ys.take i) σ).1).2 = false := by simpa using hq
              have e2 := matchTs_bad i hix hiy hi.2 hq
              simp only [push_cast, Nat.reduceAdd, Nat.reduceSub, Nat.reduceMul, Nat.reduceLT, Nat.reduceLeDiff, Nat.reduceEqDiff, Int.reduceToNat, ↓reduceIte, hok0, e2, hq]
          · have hil : i = xs.length := by omega
            rw [List.take_of_length_le (show xs.length ≤ i by omega), List.take_of_length_le (show ys.length ≤ i by omega)] at hi ⊢
            simp only [push_cast, Nat.reduceAdd, Nat.reduceSub, Nat.reduceMul, Nat.reduceLT, Nat.reduceLeDiff, Nat.reduceEqDiff, Int.reduceToNat, ↓reduceIte, hok0, hi.2]
        · have hc : clash n xs.length (.mk n false ys) = true := by
            cases hcl : clash n xs.length (.mk n false ys) with
            | true => rfl
            | false => exact absurd (clash_false.1 hcl).2.2 (by show ¬ xs.length = ys.length; omega)
          have e := matchP_c σ hc
          simp only [push_cast, Nat.reduceAdd, Nat.reduceSub, Nat.reduceMul, Nat.reduceLT, Nat.reduceLeDiff, Nat.reduceEqDiff, Int.reduceToNat, ↓reduceIte, e, hok0]
      · have hc : clash n xs.length (.mk n2 false ys) = true := by
          unfold clash; simp [Term.args_mk, Term.name_mk, Term.var_mk, hn]
        have e := matchP_c σ hc
        simp only [push_cast, Nat.reduceAdd, Nat.reduceSub, Nat.reduceMul, Nat.reduceLT, Nat.reduceLeDiff, Nat.reduceEqDiff, Int.reduceToNat, ↓reduceIte, e, hok0]
theorem find_ac (p t : Term) (hb : p.bulk ≤ 1099511627770) (hb2 : t.bulk ≤ 1099511627775) (H : List AObj) : ACall Tryz.prog 89 [encT p, encT t] H (fun r H' => r = .tup [.sl .none (encL encBd (matchP p t []).1), .bool (matchP p t []).2] ∧ H' = H) := by
  have hsz := p.size_le
  refine ACall_VGA (H.length) 12 [.tmp 4, .tmp 5] Tryz.func89 rfl rfl rfl ?_
  refine AW_reserve 1 ?_
  refine AW_of_W ?_
  simp only [push_cast, Nat.reduceAdd, Nat.reduceSub, Nat.reduceMul, Nat.reduceLT, Nat.reduceLeDiff, Nat.reduceEqDiff, Int.reduceToNat, ↓reduceIte]
  have hm := match_ac p t [] (by simp [SortedN]) (by omega) hb2 (by simp) (by simp; omega) (H ++ [.dead, .cells [.str p.name, .bool p.var, .sl .none (encTs p.args)], .cells [.str t.name, .bool t.var, .sl .none (encTs t.args)], .cells [.sl .zero []]]) (H.length + 3) H.length (by simp) (by simp) (by omega)
  have e0 : ∀ L : List AObj, mH (H ++ (.dead :: L ++ [.cells [.sl .zero []]])) (H.length + L.length + 1) H.length [] = H ++ (.dead :: L ++ [.cells [.sl .zero []]]) := fun L => by
    unfold mH
    rw [encL_nil, grS_nil, grO_nil, Nat.add_assoc, hsetN, hset0]
    congr 1
    simp
  have e1 : ∀ (L : List AObj) (σ : List (List UInt8 × Term)), mH (H ++ (.dead :: L ++ [.cells [.sl .zero []]])) (H.length + L.length + 1) H.length σ = H ++ (grO 86 4 (encL encBd σ) :: L ++ [.cells [grS H.length (encL encBd σ)]]) := fun L σ => by
    unfold mH
    rw [Nat.add_assoc, hsetN, hset0]
    congr 1
    simp
  have h0 := e0 [.cells [.str p.name, .bool p.var, .sl .none (encTs p.args)], .cells [.str t.name, .bool t.var, .sl .none (encTs t.args)]]
  have h1 := e1 [.cells [.str p.name, .bool p.var, .sl .none (encTs p.args)], .cells [.str t.name, .bool t.var, .sl .none (encTs t.args)]] (matchP p t []).1
  simp only [List.cons_append, List.nil_append, List.length_cons, List.length_nil] at h0 h1
  rw [h0, h1] at hm
  refine hm.to ?_
  simp only [push_cast, Nat.reduceAdd, Nat.reduceSub, Nat.reduceMul, Nat.reduceLT, Nat.reduceLeDiff, Nat.reduceEqDiff, Int.reduceToNat, ↓reduceIte]
  refine .row2 H.length 86 4 (by exact aget0 _ _ _) (by rw [flB_len, encL_length]) (by omega) (of_eq_true (flB_sc _ _)) (by simp only [push_cast, Nat.reduceAdd, Nat.reduceSub, Nat.reduceMul, Nat.reduceLT, Nat.reduceLeDiff, Nat.reduceEqDiff, Int.reduceToNat, ↓reduceIte])
end Ab
set_option maxRecDepth 10000
namespace Ab
open Go Go.Proofs
theorem walkL_pre : ∀ (xs : List Term) (i : Int) (p : List Int), (walkL xs i p).map (·.1) = ((walkL xs i []).map (·.1)).map (p ++ ·) := by
  have key : ∀ n (xs : List Term), (xs.map Term.size).sum < n → ∀ (i : Int) (p : List Int), (walkL xs i p).map (·.1) = ((walkL xs i []).map (·.1)).map (p ++ ·) := by
    intro n
    induction n with
    | zero => intro xs h; omega
    | succ n ih =>
      intro xs hn i p
      cases xs with
      | nil => simp [walkL]
      | cons t r =>
        cases t with
        | mk nm v ys =>
          simp only [List.map_cons, List.sum_cons, Term.size_mk] at hn
          simp only [walkL, List.map_cons, List.map_append]
          rw [ih ys (by omega) 0 (p ++ [i]), ih ys (by omega) 0 ([] ++ [i]), ih r (by omega) (i + 1) p]
          simp [List.map_map, Function.comp_def]
  exact fun xs => key _ xs (Nat.lt_succ_self _)
end Ab
set_option maxRecDepth 10000
namespace Ab
open Go
def atF : List (Term × Term) → Nat → List Int → Term → List (Int × List Int)
  | [], _, _, _ => []
  | x :: r, k, p, s => (if (matchP x.1 s []).2 then [((k : Int), p)] else []) ++ atF r (k + 1) p s
theorem atF_app : ∀ (a b : List (Term × Term)) (k : Nat) (p : List Int) (s : Term), atF (a ++ b) k p s = atF a k p s ++ atF b (k + a.length) p s
  | [], b, k, p, s => by simp [atF]
  | x :: r, b, k, p, s => by
    rw [List.cons_append, atF, atF, atF_app r b (k + 1) p s, List.append_assoc, List.length_cons]
    rw [show k + 1 + r.length = k + (r.length + 1) by omega]
theorem atF_take (rs : List (Term × Term)) (p : List Int) (s : Term) (i : Nat) (h : i < rs.length) : atF (rs.take (i + 1)) 0 p s = atF (rs.take i) 0 p s ++ (if (matchP rs[i].1 s []).2 then [((i : Int), p)] else []) := by
  rw [List.take_succ_eq_append_getElem h, atF_app, List.length_take]
  simp only [atF, List.append_nil]
  rw [show 0 + min i rs.length = i by omega]
theorem atF_mem : ∀ (rs : List (Term × Term)) (k : Nat) (p : List Int) (s : Term) x, x ∈ atF rs k p s → x.2 = p ∧ ∃ i : Nat, ∃ h : i < rs.length, x.1 = ((k + i : Nat) : Int) ∧ (matchP rs[i].1 s []).2 = true
  | [], _, _, _, x, hx => by simp [atF] at hx
  | r :: rs, k, p, s, x, hx => by
    rw [atF, List.mem_append] at hx
    rcases hx with hx | hx
    · split at hx
      · rename_i hm
        rw [List.mem_singleton] at hx
        subst hx
        exact ⟨rfl, 0, by simp, by simp, by simpa using hm⟩
      · simp at hx
    · obtain ⟨h1, i, h2, h3, h4⟩ := atF_mem rs (k + 1) p s x hx
      refine ⟨h1, i + 1, by simpa using h2, by rw [h3]; congr 1; omega, by simpa using h4⟩
theorem atF_len : ∀ (rs : List (Term × Term)) (k : Nat) (p : List Int) (s : Term), (atF rs k p s).length ≤ rs.length
  | [], _, _, _ => by simp [atF]
  | r :: rs, k, p, s => by
    have := atF_len rs (k + 1) p s
    rw [atF, List.length_append, List.length_cons]
    split <;> simp <;> omega
def atV (rs : List (Term × Term)) (p : List Int) (s : Term) : List (Int × List Int) := if s.var then [] else atF rs 0 p s
theorem atV_len (rs : List (Term × Term)) (p : List Int) (s : Term) : (atV rs p s).length ≤ rs.length := by
  unfold atV; split
  · simp
  · exact atF_len _ _ _ _
theorem atV_pos {rs : List (Term × Term)} {p : List Int} {s : Term} {x : Int × List Int} (h : x ∈ atV rs p s) : x.2 = p := by
  unfold atV at h; split at h
  · simp at h
  · exact (atF_mem _ _ _ _ _ h).1
def allI (rs : List (Term × Term)) (items : List (List Int × Term)) : List (Int × List Int) := items.flatMap fun x => atV rs x.1 x.2
theorem allI_nil (rs : List (Term × Term)) : allI rs [] = [] := (rfl)
theorem allI_app (rs : List (Term × Term)) (a b : List (List Int × Term)) : allI rs (a ++ b) = allI rs a ++ allI rs b := by simp [allI]
theorem allI_snoc (rs : List (Term × Term)) (a : List (List Int × Term)) (x : List Int × Term) : allI rs (a ++ [x]) = allI rs a ++ atV rs x.1 x.2 := by simp [allI]
theorem allI_len (rs : List (Term × Term)) : ∀ items : List (List Int × Term), (allI rs items).length ≤ items.length * rs.length
  | [] => by simp [allI]
  | x :: l => by
    have h1 := allI_len rs l
    have h2 := atV_len rs x.1 x.2
    have e : allI rs (x :: l) = atV rs x.1 x.2 ++ allI rs l := by simp [allI]
    rw [e, List.length_append, List.length_cons, Nat.add_mul]
    omega
def allS (rs : List (Term × Term)) (t : Term) : List (Int × List Int) := allI rs (walkT t [])
def innL (rs : List (Term × Term)) : List Term → Int → List Int → List (Int × List Int)
  | [], _, _ => []
  | .mk n v xs :: r, i, p => (if innL rs xs 0 (p ++ [i]) = [] then atV rs (p ++ [i]) (.mk n v xs) else innL rs xs 0 (p ++ [i])) ++ innL rs r (i + 1) p
def innT (rs : List (Term × Term)) (t : Term) (p : List Int) : List (Int × List Int) := if innL rs t.args 0 p = [] then atV rs p t else innL rs t.args 0 p
theorem innL_nil (rs : List (Term × Term)) (i : Int) (p : List Int) : innL rs [] i p = [] := by simp [innL]
theorem innL_cons (rs : List (Term × Term)) (t : Term) (r : List Term) (i : Int) (p : List Int) : innL rs (t :: r) i p = innT rs t (p ++ [i]) ++ innL rs r (i + 1) p := by
  cases t with
  | mk n v xs => rw [innL]; rfl
theorem innL_app (rs : List (Term × Term)) : ∀ (a b : List Term) (i : Int) (p : List Int), innL rs (a ++ b) i p = innL rs a i p ++ innL rs b (i + a.length) p
  | [], b, i, p => by simp [innL_nil]
  | x :: r, b, i, p => by
    rw [List.cons_append, innL_cons, innL_cons, innL_app rs r b (i + 1) p, List.append_assoc, List.length_cons]
    congr 3
    omega
theorem innL_take (rs : List (Term × Term)) (xs : List Term) (p : List Int) (i : Nat) (h : i < xs.length) : innL rs (xs.take (i + 1)) 0 p = innL rs (xs.take i) 0 p ++ innT rs xs[i] (p ++ [(i : Int)]) := by
  rw [List.take_succ_eq_append_getElem h, innL_app, innL_cons, innL_nil, List.append_nil, List.length_take]
  rw [show (0 : Int) + ((min i xs.length : Nat) : Int) = (i : Int) by omega]
def outL (rs : List (Term × Term)) : List Term → Int → List Int → List (Int × List Int)
  | [], _, _ => []
  | .mk n v xs :: r, i, p => (if atV rs (p ++ [i]) (.mk n v xs) = [] then outL rs xs 0 (p ++ [i]) else atV rs (p ++ [i]) (.mk n v xs)) ++ outL rs r (i + 1) p
def outT (rs : List (Term × Term)) (t : Term) (p : List Int) : List (Int × List Int) := if atV rs p t = [] then outL rs t.args 0 p else atV rs p t
theorem outL_nil' (rs : List (Term × Term)) (i : Int) (p : List Int) : outL rs [] i p = [] := by simp [outL]
theorem outL_cons (rs : List (Term × Term)) (t : Term) (r : List Term) (i : Int) (p : List Int) : outL rs (t :: r) i p = outT rs t (p ++ [i]) ++ outL rs r (i + 1) p := by
  cases t with
  | mk n v xs => rw [outL]; rfl
theorem outL_app (rs : List (Term × Term)) : ∀ (a b : List Term) (i : Int) (p : List Int), outL rs (a ++ b) i p = outL rs a i p ++ outL rs b (i + a.length) p
  | [], b, i, p => by simp [outL_nil']
  | x :: r, b, i, p => by
    rw [List.cons_append, outL_cons, outL_cons, outL_app rs r b (i + 1) p, List.append_assoc, List.length_cons]
    congr 3
    omega
theorem outL_take' (rs : List (Term × Term)) (xs : List Term) (p : List Int) (i : Nat) (h : i < xs.length) : outL rs (xs.take (i + 1)) 0 p = outL rs (xs.take i) 0 p ++ outT rs xs[i] (p ++ [(i : Int)]) := by
  rw [List.take_succ_eq_append_getElem h, outL_app, outL_cons, outL_nil', List.append_nil, List.length_take]
  rw [show (0 : Int) + ((min i xs.length : Nat) : Int) = (i : Int) by omega]
theorem inn_len (rs : List (Term × Term)) (t : Term) : ∀ p, (innT rs t p).length ≤ t.size * rs.length := by
  induction t using Term.ind with | _ n v xs ih
  intro p
  have h1 := atV_len rs p (.mk n v xs)
  have h2 : ∀ (ys : List Term) (i : Int), (∀ y, y ∈ ys → y ∈ xs) → (innL rs ys i p).length ≤ (ys.map Term.size).sum * rs.length := by
    intro ys
    induction ys with
    | nil => intro i _; simp [innL_nil]
    | cons y r ih2 =>
      intro i hy
      have g1 := ih y (hy y (by simp)) (p ++ [i])
      have g2 := ih2 (i + 1) (fun z hz => hy z (by simp [hz]))
      rw [innL_cons, List.length_append, List.map_cons, List.sum_cons, Nat.add_mul]
      omega
  have h3 := h2 xs 0 (fun y hy => hy)
  unfold innT
  rw [Term.size_mk, Nat.add_mul]
  split
  · omega
  · show (innL rs xs 0 p).length ≤ _; omega
theorem innL_len (rs : List (Term × Term)) (p : List Int) : ∀ (ys : List Term) (i : Int), (innL rs ys i p).length ≤ (ys.map Term.size).sum * rs.length
  | [], i => by simp [innL_nil]
  | y :: r, i => by
    have g1 := inn_len rs y (p ++ [i])
    have g2 := innL_len rs p r (i + 1)
    rw [innL_cons, List.length_append, List.map_cons, List.sum_cons, Nat.add_mul]
    omega
theorem out_len (rs : List (Term × Term)) (t : Term) : ∀ p, (outT rs t p).length ≤ t.size * rs.length := by
  induction t using Term.ind with | _ n v xs ih
  intro p
  have h1 := atV_len rs p (.mk n v xs)
  have h2 : ∀ (ys : List Term) (i : Int), (∀ y, y ∈ ys → y ∈ xs) → (outL rs ys i p).length ≤ (ys.map Term.size).sum * rs.length := by
    intro ys
    induction ys with
    | nil => intro i _; simp [outL_nil']
    | cons y r ih2 =>
      intro i hy
      have g1 := ih y (hy y (by simp)) (p ++ [i])
      have g2 := ih2 (i + 1) (fun z hz => hy z (by simp [hz]))
      rw [outL_cons, List.length_append, List.map_cons, List.sum_cons, Nat.add_mul]
      omega
  have h3 := h2 xs 0 (fun y hy => hy)
  unfold outT
  rw [Term.size_mk, Nat.add_mul]
  split
  · show (outL rs xs 0 p).length ≤ _; omega
  · omega
theorem outL_len' (rs : List (Term × Term)) (p : List Int) : ∀ (ys : List Term) (i : Int), (outL rs ys i p).length ≤ (ys.map Term.size).sum * rs.length
  | [], i => by simp [outL_nil']
  | y :: r, i => by
    have g1 := out_len rs y (p ++ [i])
    have g2 := outL_len' rs p r (i + 1)
    rw [outL_cons, List.length_append, List.map_cons, List.sum_cons, Nat.add_mul]
    omega
def firstS (l : List (Int × List Int)) : List (Int × List Int) := match l with
  | [] => []
  | x :: r => x :: r.takeWhile fun y => decide (y.2 = x.2)
def underP (rs : List (Term × Term)) (t : Term) (s : Int) : List (Int × List Int) :=
  if s = 2 then innT rs t [] else if s = 4 then firstS (innT rs t []) else if s = 3 then outT rs t [] else if s = 5 then firstS (outT rs t []) else allS rs t
end Ab
set_option maxRecDepth 10000
namespace Ab
open Go Go.Proofs
theorem marked_suffix (s : List UInt8) : decide (([35] : List UInt8).length ≤ s.length ∧ s.drop (s.length - ([35] : List UInt8).length) = [35]) = markedP s := by
  unfold markedP
  rw [Bool.eq_iff_iff, decide_eq_true_eq, decide_eq_true_eq]
  rcases List.eq_nil_or_concat s with rfl | ⟨l, a, rfl⟩
  · simp
  · simp
theorem stringsHasSuffix_ac (s suf : List UInt8) (H : List AObj) (h1 : s.length < 1099511627776) (h2 : suf.length < 1099511627776) :
    ACall Tryz.prog 134 [.str s, .str suf] H (fun r H' => r = .bool (decide (suf.length ≤ s.length ∧ s.drop (s.length - suf.length) = suf)) ∧ H' = H) := by
  refine ACall_V (H.length) 6 [.tmp 4] Tryz.func134 rfl rfl rfl ?_
  simp only [push_cast, Nat.reduceAdd, Nat.reduceSub, Nat.reduceMul, Nat.reduceLT, Nat.reduceLeDiff, Nat.reduceEqDiff, Int.reduceToNat, ↓reduceIte]
  refine (hasSuffix_ac s suf _ h1 h2).to ?_
  simp only [push_cast, Nat.reduceAdd, Nat.reduceSub, Nat.reduceMul, Nat.reduceLT, Nat.reduceLeDiff, Nat.reduceEqDiff, Int.reduceToNat, ↓reduceIte]
theorem markedT_ac (s : List UInt8) (h1 : s.length < 1099511627776) (H : List AObj) : ACall Tryz.prog 103 [.str s] H (fun r H' => r = .bool (markedP s) ∧ H' = H) := by
  rw [← marked_suffix]
  refine ACall_V (H.length) 4 [.tmp 2] Tryz.func103 rfl rfl rfl ?_
  simp only [push_cast, Nat.reduceAdd, Nat.reduceSub, Nat.reduceMul, Nat.reduceLT, Nat.reduceLeDiff, Nat.reduceEqDiff, Int.reduceToNat, ↓reduceIte]
  refine (stringsHasSuffix_ac s [35] _ h1 (by decide)).to ?_
  simp only [push_cast, Nat.reduceAdd, Nat.reduceSub, Nat.reduceMul, Nat.reduceLT, Nat.reduceLeDiff, Nat.reduceEqDiff, Int.reduceToNat, ↓reduceIte]
theorem indexS_ac (l : List (List UInt8)) (v : List UInt8) (hlen : l.length < 1099511627776) (H : List AObj) :
    ACall Tryz.prog 156 [.sl .none (encN l), .str v] H (fun r H' => ∃ n : Int, r = .int .i64 n ∧ (0 ≤ n ↔ v ∈ l) ∧ H' = H) := by
  refine ACall_W (H.length) 17 [.tmp 4] Tryz.func156 rfl rfl rfl ?_
  simp only [push_cast, Nat.reduceAdd, Nat.reduceSub, Nat.reduceMul, Nat.reduceLT, Nat.reduceLeDiff, Nat.reduceEqDiff, Int.reduceToNat, ↓reduceIte]
  refine AW_loopW (maskG 19 [0, 0, 5, 0]) (fun (i : Nat) => [(8, .int .i64 i)]) (fun _ => H) (fun i => i ≤ l.length ∧ ¬ v ∈ l.take i) (fun i => l.length - i) 0 ⟨Nat.zero_le _, by simp⟩ (by simp only [push_cast, Nat.reduceAdd, Nat.reduceSub, Nat.reduceMul, Nat.reduceLT, Nat.reduceLeDiff, Nat.reduceEqDiff, Int.reduceToNat, ↓reduceIte]) (fun i hi => ?_)
  simp only [push_cast, Nat.reduceAdd, Nat.reduceSub, Nat.reduceMul, Nat.reduceLT, Nat.reduceLeDiff, Nat.reduceEqDiff, Int.reduceToNat, ↓reduceIte]
  refine cI (fun h => ?_) (fun h => ?_)
  · repeat refine ⟨by omega, ?_⟩
    have hil : i < l.length := by omega
    refine cI (fun hp => ?_) (fun hp => ?_)
    · exact ⟨i, rfl, ⟨fun _ => by rw [hp]; exact List.getElem_mem hil, fun _ => by omega⟩⟩
    · repeat refine ⟨by omega, ?_⟩
      refine loopW_n (i + 1) ⟨by omega, ?_⟩ (by omega) (by simp only [push_cast, Nat.reduceAdd, Nat.reduceSub, Nat.reduceMul, Nat.reduceLT, Nat.reduceLeDiff, Nat.reduceEqDiff, Int.reduceToNat, ↓reduceIte])
      rw [List.take_succ_eq_append_getElem hil, List.mem_append, List.mem_singleton]
      rintro (h1 | h1)
      · exact hi.2 h1
      · exact hp h1
  · have hs : l.take i = l := List.take_of_length_le (by omega)
    rw [hs] at hi
    exact ⟨-1, rfl, ⟨by omega, fun h => absurd h hi.2⟩⟩
theorem containsS_ac (l : List (List UInt8)) (v : List UInt8) (hlen : l.length < 1099511627776) (H : List AObj) :
    ACall Tryz.prog 139 [.sl .none (encN l), .str v] H (fun r H' => r = .bool (decide (v ∈ l)) ∧ H' = H) := by
  refine ACall_V (H.length) 7 [.tmp 4] Tryz.func139 rfl rfl rfl ?_
  simp only [push_cast, Nat.reduceAdd, Nat.reduceSub, Nat.reduceMul, Nat.reduceLT, Nat.reduceLeDiff, Nat.reduceEqDiff, Int.reduceToNat, ↓reduceIte]
  refine (indexS_ac l v hlen _).mono ?_
  rintro r H' ⟨n, rfl, hn, rfl⟩
  simp only [push_cast, Nat.reduceAdd, Nat.reduceSub, Nat.reduceMul, Nat.reduceLT, Nat.reduceLeDiff, Nat.reduceEqDiff, Int.reduceToNat, ↓reduceIte, hn]
theorem extraC_ac (v : List UInt8) (L : List (List UInt8)) (hlen : L.length < 1099511627776) (H : List AObj) (o : AObj) :
    ACall Tryz.prog 138 [.str v, .ptr (H.length + 1) 0] (H ++ [o, .cells [.sl .none (encN L)]]) (fun r H' => r = .bool (!decide (v ∈ L)) ∧ H' = H ++ [o, .cells [.sl .none (encN L)]]) := by
  refine ACall_V (H.length + 2) 6 [.tmp 3] Tryz.func138 rfl rfl rfl ?_
  simp only [push_cast, Nat.reduceAdd, Nat.reduceSub, Nat.reduceMul, Nat.reduceLT, Nat.reduceLeDiff, Nat.reduceEqDiff, Int.reduceToNat, ↓reduceIte]
  refine (containsS_ac L v hlen _).to ?_
  simp only [push_cast, Nat.reduceAdd, Nat.reduceSub, Nat.reduceMul, Nat.reduceLT, Nat.reduceLeDiff, Nat.reduceEqDiff, Int.reduceToNat, ↓reduceIte]
  rw [show H.length + 2 = (H ++ [o, .cells [.sl .none (encN L)]]).length from by simp]
  exact outok_self
theorem indexN_ac (l : List (List UInt8)) (g : Nat) (caps : List AV) (p : List UInt8 → Bool) (H : List AObj) (hlen : l.length < 1099511627776) (hg : callOk Tryz.prog g = true) (hsc : ScopedL H.length caps)
    (hf : ∀ i (h : i < l.length), ACall Tryz.prog g (.str l[i] :: caps) H (fun r H' => r = .bool (p l[i]) ∧ H' = H)) :
    ACall Tryz.prog 155 [.sl .none (encN l), .fn g caps] H (fun r H' => ∃ n : Int, r = .int .i64 n ∧ (0 ≤ n ↔ l.any p = true) ∧ H' = H) := by
  refine ACall_W (H.length) 17 [.tmp 4] Tryz.func155 rfl rfl rfl ?_
  simp only [push_cast, Nat.reduceAdd, Nat.reduceSub, Nat.reduceMul, Nat.reduceLT, Nat.reduceLeDiff, Nat.reduceEqDiff, Int.reduceToNat, ↓reduceIte]
  refine AW_loopW (maskG 19 [0, 0, 5, 0]) (fun (i : Nat) => [(8, .int .i64 i)]) (fun _ => H) (fun i => i ≤ l.length ∧ (l.take i).any p = false) (fun i => l.length - i) 0 ⟨Nat.zero_le _, by simp⟩ (by simp only [push_cast, Nat.reduceAdd, Nat.reduceSub, Nat.reduceMul, Nat.reduceLT, Nat.reduceLeDiff, Nat.reduceEqDiff, Int.reduceToNat, ↓reduceIte, hsc]) (fun i hi => ?_)
  simp only [push_cast, Nat.reduceAdd, Nat.reduceSub, Nat.reduceMul, Nat.reduceLT, Nat.reduceLeDiff, Nat.reduceEqDiff, Int.reduceToNat, ↓reduceIte, hg]
  refine cI (fun h => ⟨by omega, (hf i (by omega)).to ?_⟩) (fun h => ?_)
  · simp only [push_cast, Nat.reduceAdd, Nat.reduceSub, Nat.reduceMul, Nat.reduceLT, Nat.reduceLeDiff, Nat.reduceEqDiff, Int.reduceToNat, ↓reduceIte]
    refine cI (fun hp => ?_) (fun hp => ⟨by omega, loopW_n (i + 1) ⟨by omega, any_take_false hi.2 (by omega) (by simpa using hp)⟩ (by omega) (by simp only [push_cast, Nat.reduceAdd, Nat.reduceSub, Nat.reduceMul, Nat.reduceLT, Nat.reduceLeDiff, Nat.reduceEqDiff, Int.reduceToNat, ↓reduceIte, hsc])⟩)
    exact ⟨i, rfl, ⟨fun _ => any_get (by omega) hp, fun _ => by omega⟩⟩
  · have hs : l.take i = l := List.take_of_length_le (by omega)
    rw [hs] at hi
    exact ⟨-1, rfl, ⟨by omega, fun h => by rw [hi.2] at h; cases h⟩⟩
theorem containsN_ac (l : List (List UInt8)) (g : Nat) (caps : List AV) (p : List UInt8 → Bool) (H : List AObj) (hlen : l.length < 1099511627776) (hg : callOk Tryz.prog g = true) (hsc : ScopedL H.length caps)
    (hf : ∀ i (h : i < l.length), ACall Tryz.prog g (.str l[i] :: caps) H (fun r H' => r = .bool (p l[i]) ∧ H' = H)) :
    ACall Tryz.prog 137 [.sl .none (encN l), .fn g caps] H (fun r H' => r = .bool (l.any p) ∧ H' = H) := by
  refine ACall_W (H.length) 7 [.tmp 4] Tryz.func137 rfl rfl rfl ?_
  simp only [push_cast, Nat.reduceAdd, Nat.reduceSub, Nat.reduceMul, Nat.reduceLT, Nat.reduceLeDiff, Nat.reduceEqDiff, Int.reduceToNat, ↓reduceIte]
  refine (indexN_ac _ g caps p _ hlen hg hsc hf).mono ?_
  rintro r H ⟨n, rfl, hn, rfl⟩
  simp only [push_cast, Nat.reduceAdd, Nat.reduceSub, Nat.reduceMul, Nat.reduceLT, Nat.reduceLeDiff, Nat.reduceEqDiff, Int.reduceToNat, ↓reduceIte, hn]
  cases l.any p <;> simp
theorem vars1_len (t : Term) : (varsP [t]).length ≤ t.size := by
  have := foldC_length [t] []
  simpa [foldC, varsP] using this
def extraP (x : Term × Term) : Bool := x.1.var || (varsP [x.2]).any fun v => !decide (v ∈ varsP [x.1])
theorem extra_ac (x : Term × Term) (h1 : x.1.bulk ≤ 1099511627770) (h2 : x.2.bulk ≤ 1099511627770) (H : List AObj) : ACall Tryz.prog 105 [encRu x] H (fun r H' => r = .bool (extraP x) ∧ H' = H) := by
  have hs1 := x.1.size_le
  have hs2 := x.2.size_le
  have hl1 := vars1_len x.1
  have hl2 := vars1_len x.2
  refine ACall_V (H.length) 18 [.tmp 2] Tryz.func105 rfl rfl rfl ?_
  simp only [push_cast, Nat.reduceAdd, Nat.reduceSub, Nat.reduceMul, Nat.reduceLT, Nat.reduceLeDiff, Nat.reduceEqDiff, Int.reduceToNat, ↓reduceIte]
  refine (vars1_ac x.1 h1 _).to ?_
  simp only [push_cast, Nat.reduceAdd, Nat.reduceSub, Nat.reduceMul, Nat.reduceLT, Nat.reduceLeDiff, Nat.reduceEqDiff, Int.reduceToNat, ↓reduceIte]
  refine cI (fun hv => ?_) (fun hv => ?_)
  · have e : extraP x = true := by unfold extraP; rw [hv]; rfl
    simp only [push_cast, Nat.reduceAdd, Nat.reduceSub, Nat.reduceMul, Nat.reduceLT, Nat.reduceLeDiff, Nat.reduceEqDiff, Int.reduceToNat, ↓reduceIte, e]
  · have e : extraP x = (varsP [x.2]).any fun v => !decide (v ∈ varsP [x.1]) := by unfold extraP; rw [show x.1.var = false by simpa using hv]; rfl
    refine (vars1_ac x.2 h2 _).to ?_
    simp only [push_cast, Nat.reduceAdd, Nat.reduceSub, Nat.reduceMul, Nat.reduceLT, Nat.reduceLeDiff, Nat.reduceEqDiff, Int.reduceToNat, ↓reduceIte]
    refine (containsN_ac (varsP [x.2]) 138 [.ptr (H.length + 1) 0] (fun v => !decide (v ∈ varsP [x.1])) _ (by omega) ok138 (by simp only [push_cast, Nat.reduceAdd, Nat.reduceSub, Nat.reduceMul, Nat.reduceLT, Nat.reduceLeDiff, Nat.reduceEqDiff, Int.reduceToNat, ↓reduceIte]) (fun i h => extraC_ac _ _ (by omega) H _)).to ?_
    simp only [push_cast, Nat.reduceAdd, Nat.reduceSub, Nat.reduceMul, Nat.reduceLT, Nat.reduceLeDiff, Nat.reduceEqDiff, Int.reduceToNat, ↓reduceIte, e]
theorem indexRu_ac (rs : List (Term × Term)) (g : Nat) (caps : List AV) (p : (Term × Term) → Bool) (H : List AObj) (hlen : rs.length < 1099511627776) (hg : callOk Tryz.prog g = true) (hsc : ScopedL H.length caps)
    (hf : ∀ i (h : i < rs.length), ACall Tryz.prog g (encRu rs[i] :: caps) H (fun r H' => r = .bool (p rs[i]) ∧ H' = H)) :
    ACall Tryz.prog 135 [.sl .none (encL encRu rs), .fn g caps] H (fun r H' => ∃ n : Int, r = .int .i64 n ∧ (0 ≤ n ↔ rs.any p = true) ∧ H' = H) := by
  refine ACall_W (H.length) 17 [.tmp 4] Tryz.func135 rfl rfl rfl ?_
  simp only [push_cast, Nat.reduceAdd, Nat.reduceSub, Nat.reduceMul, Nat.reduceLT, Nat.reduceLeDiff, Nat.reduceEqDiff, Int.reduceToNat, ↓reduceIte]
  refine AW_loopW (maskG 19 [0, 0, 5, 0]) (fun (i : Nat) => [(8, .int .i64 i)]) (fun _ => H) (fun i => i ≤ rs.length ∧ (rs.take i).any p = false) (fun i => rs.length - i) 0 ⟨Nat.zero_le _, by simp⟩ (by simp only [push_cast, Nat.reduceAdd, Nat.reduceSub, Nat.reduceMul, Nat.reduceLT, Nat.reduceLeDiff, Nat.reduceEqDiff, Int.reduceToNat, ↓reduceIte, hsc]) (fun i hi => ?_)
  simp only [push_cast, Nat.reduceAdd, Nat.reduceSub, Nat.reduceMul, Nat.reduceLT, Nat.reduceLeDiff, Nat.reduceEqDiff, Int.reduceToNat, ↓reduceIte, hg]
  refine cI (fun h => ⟨by omega, (hf i (by omega)).to ?_⟩) (fun h => ?_)
  · simp only [push_cast, Nat.reduceAdd, Nat.reduceSub, Nat.reduceMul, Nat.reduceLT, Nat.reduceLeDiff, Nat.reduceEqDiff, Int.reduceToNat, ↓reduceIte]
    refine cI (fun hp => ?_) (fun hp => ⟨by omega, loopW_n (i + 1) ⟨by omega, any_take_false hi.2 (by omega) (by simpa using hp)⟩ (by omega) (by simp only [push_cast, Nat.reduceAdd, Nat.reduceSub, Nat.reduceMul, Nat.reduceLT, Nat.reduceLeDiff, Nat.reduceEqDiff, Int.reduceToNat, ↓reduceIte, hsc])⟩)
    exact ⟨i, rfl, ⟨fun _ => any_get (by omega) hp, fun _ => by omega⟩⟩
  · have hs : rs.take i = rs := List.take_of_length_le (by omega)
    rw [hs] at hi
    exact ⟨-1, rfl, ⟨by omega, fun h => by rw [hi.2] at h; cases h⟩⟩
theorem containsRu_ac (rs : List (Term × Term)) (g : Nat) (caps : List AV) (p : (Term × Term) → Bool) (H : List AObj) (hlen : rs.length < 1099511627776) (hg : callOk Tryz.prog g = true) (hsc : ScopedL H.length caps)
    (hf : ∀ i (h : i < rs.length), ACall Tryz.prog g (encRu rs[i] :: caps) H (fun r H' => r = .bool (p rs[i]) ∧ H' = H)) :
    ACall Tryz.prog 104 [.sl .none (encL encRu rs), .fn g caps] H (fun r H' => r = .bool (rs.any p) ∧ H' = H) := by
  refine ACall_W (H.length) 7 [.tmp 4] Tryz.func104 rfl rfl rfl ?_
  simp only [push_cast, Nat.reduceAdd, Nat.reduceSub, Nat.reduceMul, Nat.reduceLT, Nat.reduceLeDiff, Nat.reduceEqDiff, Int.reduceToNat, ↓reduceIte]
  refine (indexRu_ac _ g caps p _ hlen hg hsc hf).mono ?_
  rintro r H ⟨n, rfl, hn, rfl⟩
  simp only [push_cast, Nat.reduceAdd, Nat.reduceSub, Nat.reduceMul, Nat.reduceLT, Nat.reduceLeDiff, Nat.reduceEqDiff, Int.reduceToNat, ↓reduceIte, hn]
  cases rs.any p <;> simp
end Ab
set_option maxRecDepth 10000
namespace Ab
open Go Go.Proofs
def avN (n : Nat) : AV := .int .i64 n
def sA (m : List (List UInt8 × Nat)) : List (AV × AV) := amap AV.str avN m
def lN (o : Option (List UInt8 × Nat)) : Option (AV × AV) := o.map fun s => (AV.str s.1, avN s.2)
theorem sA_nil : sA [] = [] := (rfl)
theorem sA_len (m : List (List UInt8 × Nat)) : (sA m).length = m.length := by simp [sA, amap]
theorem osc_sA (n ver : Nat) (m : List (List UInt8 × Nat)) : OScoped n (.map ver (sA m)) = True := by
  refine eq_true ?_
  intro e he
  simp only [sA, amap, List.mem_map] at he
  obtain ⟨k, _, rfl⟩ := he
  exact ⟨trivial, trivial⟩
theorem osc_itA (n m ver : Nat) (l : List (List UInt8 × Nat)) (o : Option (List UInt8 × Nat)) (h : m < n) : OScoped n (.iter m ver (sA l) (lN o)) = True := by
  refine eq_true ⟨h, ?_⟩
  rintro e (he | he)
  · simp only [sA, amap, List.mem_map] at he
    obtain ⟨k, _, rfl⟩ := he
    exact ⟨trivial, trivial⟩
  · cases o with
    | none => cases he
    | some k => simp only [lN, Option.map_some, Option.some.injEq] at he; subst he; exact ⟨trivial, trivial⟩
theorem osc_itAn (n m ver : Nat) (l : List (List UInt8 × Nat)) (h : m < n) : OScoped n (.iter m ver (sA l) none) = True := osc_itA n m ver l none h
theorem osc_itAs (n m ver : Nat) (l : List (List UInt8 × Nat)) (a : List UInt8) (b : Nat) (h : m < n) : OScoped n (.iter m ver (sA l) (some (.str a, avN b))) = True := osc_itA n m ver l (some (a, b)) h
theorem lN_n : lN none = none := (rfl)
theorem lN_s (s : List UInt8 × Nat) : lN (some s) = some (AV.str s.1, avN s.2) := (rfl)
theorem osc_m00 (n ver : Nat) : OScoped n (.map ver []) = True := eq_true (fun e he => by cases he)
attribute [push_cast] osc_sA osc_itA osc_itAn osc_itAs osc_m00
def arE (rs : List (Term × Term)) : Nat × List (List UInt8 × Nat) := arF (0, []) (nodesL (rT rs))
def arB (rs : List (Term × Term)) : Bool := arBad (0, []) (nodesL (rT rs))
theorem nodesL_nil : nodesL [] = [] := by simp [nodesL]
theorem arB_nil : arB [] = false := by simp [arB, rT, nodesL, arBad]
theorem arE_nil : arE [] = (0, []) := by simp [arE, rT, nodesL, arF]
def arNx (q : Nat × List (List UInt8 × Nat)) (pre : List (List Int × Term)) (x : List Int × Term) : Option Code := if x.2.var then none else if arC (arF q (nodesI pre)) (x.2.name, x.2.args.length) then some .ret else none
theorem nd_var {x : Term} (h : x.var = true) : ndT x = [] := by simp [ndT, h]
theorem nd_sym {x : Term} (h : ¬ x.var = true) : ndT x = [(x.name, x.args.length)] := by simp [ndT, h]
theorem arF_snoc (q : Nat × List (List UInt8 × Nat)) (L : List (List UInt8 × Nat)) (s : List UInt8 × Nat) : arF q (L ++ [s]) = arStep (arF q L) s := by rw [arF_app]; rfl
theorem arBad_one (q : Nat × List (List UInt8 × Nat)) (s : List UInt8 × Nat) : arBad q [s] = arC q s := by simp [arBad]
theorem arNx_ok (q : Nat × List (List UInt8 × Nat)) : ∀ (n : Nat) (items : List (List Int × Term)), items.length = n → AllNone (arNx q) items → arBad q (nodesI items) = false := by
  intro n
  induction n with
  | zero => intro items h _; rw [List.eq_nil_of_length_eq_zero h]; rfl
  | succ n ih =>
    intro items h hN
    rcases List.eq_nil_or_concat items with rfl | ⟨pre, x, rfl⟩
    · rfl
    · rw [List.concat_eq_append] at *
      have h1 := ih pre (by simpa using h) (fun p y s e => hN p y (s ++ [x]) (by rw [e]; simp))
      have h2 := hN pre x [] rfl
      rw [nodesI_snoc, arBad_app, h1, Bool.false_or]
      unfold arNx at h2
      by_cases hv : x.2.var = true
      · rw [nd_var hv]; rfl
      · rw [if_neg hv] at h2
        rw [nd_sym hv, arBad_one]
        split at h2
        · cases h2
        · rename_i h3; simpa using h3
theorem arNx_bad (q : Nat × List (List UInt8 × Nat)) (pre suf : List (List Int × Term)) (x : List Int × Term) (c : Code) (h : arNx q pre x = some c) : c = .ret ∧ arBad q (nodesI (pre ++ x :: suf)) = true := by
  unfold arNx at h
  by_cases hv : x.2.var = true
  · rw [if_pos hv] at h; cases h
  · rw [if_neg hv] at h
    split at h
    · rename_i h3
      injection h with h
      refine ⟨h.symm, ?_⟩
      have e : nodesI (pre ++ x :: suf) = nodesI pre ++ (ndT x.2 ++ nodesI suf) := by simp [nodesI]
      rw [e, arBad_app, nd_sym hv, arBad_app, arBad_one, h3]; simp
    · cases h
set_option maxHeartbeats 1600000 in
theorem arities_ac (rs : List (Term × Term)) (hlen : rs.length < 1099511627776) (hb : ∀ r, r ∈ rs → r.1.bulk ≤ 1099511627775 ∧ r.2.bulk ≤ 1099511627775) (H : List AObj) :
    ACall Tryz.prog 102 [.sl .none (encL encRu rs)] H (fun r H' => r = .tup [if arB rs then .lit (.map none) else .map (H.length + 2), .bool (!arB rs)] ∧ ∃ v es, H' = H ++ [.cells [if arB rs then .lit (.map none) else .map (H.length + 2)], .cells [.bool (!arB rs)], .map v es] ∧ (arB rs = false → v = (arE rs).1 ∧ es = sA (arE rs).2)) := by
  refine ACall_W (H.length + 3) 57 [.cell 2 125, .cell 3 4] Tryz.func102 rfl rfl rfl ?_
  simp only [push_cast, Nat.reduceAdd, Nat.reduceSub, Nat.reduceMul, Nat.reduceLT, Nat.reduceLeDiff, Nat.reduceEqDiff, Int.reduceToNat, ↓reduceIte]
  refine AW_loopW (maskG 58 [2, 0, 0, 9, 0, 0, 14]) (fun (i : Nat) => [(16, .int .i64 i)]) (fun i => H ++ [.cells [.lit (.map none)], .cells [.bool false], .map (arE (rs.take i)).1 (sA (arE (rs.take i)).2), .cells [.map (H.length + 2)]]) (fun i => i ≤ rs.length ∧ arB (rs.take i) = false) (fun i => rs.length - i) 0 ⟨Nat.zero_le _, by rw [List.take_zero]; exact arB_nil⟩ (by simp only [push_cast, Nat.reduceAdd, Nat.reduceSub, Nat.reduceMul, Nat.reduceLT, Nat.reduceLeDiff, Nat.reduceEqDiff, Int.reduceToNat, ↓reduceIte, List.take_zero, arE_nil, sA_nil]) (fun i hi => ?_)
  simp only [push_cast, Nat.reduceAdd, Nat.reduceSub, Nat.reduceMul, Nat.reduceLT, Nat.reduceLeDiff, Nat.reduceEqDiff, Int.reduceToNat, ↓reduceIte]
  refine cI (fun h => ?_) (fun h => ?_)
  · repeat refine ⟨by omega, ?_⟩
    have hil : i < rs.length := by omega
    obtain ⟨l, r, hlr⟩ : ∃ l r, rs[i]'hil = (l, r) := ⟨_, _, rfl⟩
    have hbi := hb _ (List.getElem_mem hil)
    rw [hlr] at hbi
    obtain ⟨hbl, hbr⟩ := hbi
    simp only at hbl hbr
    simp only [push_cast, Nat.reduceAdd, Nat.reduceSub, Nat.reduceMul, Nat.reduceLT, Nat.reduceLeDiff, Nat.reduceEqDiff, Int.reduceToNat, ↓reduceIte, hlr]
    refine AW_loopW (maskG 58 [2, 0, 0, 9, 0, 0, 7, 0, 5]) (fun (j : Nat) => [(25, .int .i64 j)]) (fun j => H ++ [.cells [.lit (.map none)], .cells [.bool false], .map (arF (arE (rs.take i)) (nodesL ([l, r].take j))).1 (sA (arF (arE (rs.take i)) (nodesL ([l, r].take j))).2), .cells [.map (H.length + 2)], .cells [.str l.name, .bool l.var, .sl .none (encTs l.args), .str r.name, .bool r.var, .sl .none (encTs r.args)]]) (fun j => j ≤ 2 ∧ arBad (arE (rs.take i)) (nodesL ([l, r].take j)) = false) (fun j => 2 - j) 0 ⟨by omega, by simp [nodesL, arBad]⟩ (by simp only [push_cast, Nat.reduceAdd, Nat.reduceSub, Nat.reduceMul, Nat.reduceLT, Nat.reduceLeDiff, Nat.reduceEqDiff, Int.reduceToNat, ↓reduceIte, List.take_zero, nodesL_nil, arF_nil]) (fun j hj => ?_)
    simp only [push_cast, Nat.reduceAdd, Nat.reduceSub, Nat.reduceMul, Nat.reduceLT, Nat.reduceLeDiff, Nat.reduceEqDiff, Int.reduceToNat, ↓reduceIte]
    refine cI (fun h2 => ?_) (fun h2 => ?_)
    · obtain ⟨t, hat, hbt, htk⟩ : ∃ t, (List.take 3 (List.drop (j * 3) [AV.str l.name, .bool l.var, .sl .none (encTs l.args), .str r.name, .bool r.var, .sl .none (encTs r.args)]) = [AV.str t.name, .bool t.var, .sl .none (encTs t.args)]) ∧ t.bulk ≤ 1099511627775 ∧ [l, r].take (j + 1) = [l, r].take j ++ [t] := by
        have hj01 : j = 0 ∨ j = 1 := by omega
        rcases hj01 with rfl | rfl
        · exact ⟨l, rfl, hbl, rfl⟩
        · exact ⟨r, rfl, hbr, rfl⟩
      repeat refine ⟨by omega, ?_⟩
      rw [hat]
      simp only [push_cast, Nat.reduceAdd, Nat.reduceSub, Nat.reduceMul, Nat.reduceLT, Nat.reduceLeDiff, Nat.reduceEqDiff, Int.reduceToNat, ↓reduceIte]
      refine (walkF_ac t _).to ?_
      simp only [push_cast, Nat.reduceAdd, Nat.reduceSub, Nat.reduceMul, Nat.reduceLT, Nat.reduceLeDiff, Nat.reduceEqDiff, Int.reduceToNat, ↓reduceIte]
      obtain ⟨q0, hq0⟩ : ∃ q0, q0 = arF (arE (rs.take i)) (nodesL ([l, r].take j)) := ⟨_, rfl⟩
      have hE2 : arF (arE (rs.take i)) (nodesL ([l, r].take (j + 1))) = arF q0 (nodesI (walkT t [])) := by rw [htk, nodesL_app, arF_app, ← hq0, nodes_walkT]
      have hB2 : arBad (arE (rs.take i)) (nodesL ([l, r].take (j + 1))) = arBad q0 (nodesI (walkT t [])) := by rw [htk, nodesL_app, arBad_app, hj.2, Bool.false_or, ← hq0, nodes_walkT]
      rw [← hq0]
      refine AW_iterW _ _ (walk_iter t hbt _) H (fun pre => [.cells [.lit (.map none)], .cells [.bool false], .map (arF q0 (nodesI pre)).1 (sA (arF q0 (nodesI pre)).2), .cells [.map (H.length + 2)], .cells [.str l.name, .bool l.var, .sl .none (encTs l.args), .str r.name, .bool r.var, .sl .none (encTs r.args)], .cells [.str t.name, .bool t.var, .sl .none (encTs t.args)], .cells [.str t.name, .bool t.var, .sl .none (encTs t.args)]]) 7 (arNx q0) rfl ok112 (by simp only [push_cast, Nat.reduceAdd, Nat.reduceSub, Nat.reduceMul, Nat.reduceLT, Nat.reduceLeDiff, Nat.reduceEqDiff, Int.reduceToNat, ↓reduceIte, nodesI_nil, arF_nil]) (fun _ => rfl) (fun lp => by simp only [push_cast, Nat.reduceAdd, Nat.reduceSub, Nat.reduceMul, Nat.reduceLT, Nat.reduceLeDiff, Nat.reduceEqDiff, Int.reduceToNat, ↓reduceIte]) (fun p => by simp only [push_cast, Nat.reduceAdd, Nat.reduceSub, Nat.reduceMul, Nat.reduceLT, Nat.reduceLeDiff, Nat.reduceEqDiff, Int.reduceToNat, ↓reduceIte]) (fun _ => rfl) (fun pre x suf X lid lp lp' he hn => ?_) (fun hN lp => ?_) (fun pre x suf c lp he hn hc => ?_)
      · simp only [push_cast, Nat.reduceAdd, Nat.reduceSub, Nat.reduceMul, Nat.reduceLT, Nat.reduceLeDiff, Nat.reduceEqDiff, Int.reduceToNat, ↓reduceIte, List.drop_length]
        refine cI (fun hv => ?_) (fun hv => ?_)
        · have e1 : arNx q0 pre x = none := by unfold arNx; rw [if_pos hv]
          have e2 : nodesI (pre ++ [x]) = nodesI pre := by rw [nodesI_snoc, nd_var hv, List.append_nil]
          simp only [push_cast, Nat.reduceAdd, Nat.reduceSub, Nat.reduceMul, Nat.reduceLT, Nat.reduceLeDiff, Nat.reduceEqDiff, Int.reduceToNat, ↓reduceIte, e1, e2]
        · have hsn : nodesI (pre ++ [x]) = nodesI pre ++ [(x.2.name, x.2.args.length)] := by rw [nodesI_snoc, nd_sym hv]
          obtain ⟨q, hq⟩ : ∃ q, q = arF q0 (nodesI pre) := ⟨_, rfl⟩
          have hst : arF q0 (nodesI (pre ++ [x])) = arStep q (x.2.name, x.2.args.length) := by rw [hsn, arF_snoc, ← hq]
          have hnx : arNx q0 pre x = if arC q (x.2.name, x.2.args.length) then some .ret else none := by unfold arNx; rw [if_neg hv, ← hq]
          rw [← hq, hst, hnx]
          refine AOp_lookupOk (strKey un9) avN q.2 (H.length + 2) q.1 x.2.name (.int .i64 0) rfl (by exact (agetN _ _ 2).trans rfl) rfl un125 (ZeroV_of (.int .i64 0) (by kernel_rfl)) ?_
          cases hg : aget q.2 x.2.name with
          | none =>
            have hc : arC q (x.2.name, x.2.args.length) = false := by simp [arC, hg]
            have hs : arStep q (x.2.name, x.2.args.length) = (q.1 + 1, aset q.2 x.2.name x.2.args.length) := by simp [arStep, hc]
            simp only [push_cast, Nat.reduceAdd, Nat.reduceSub, Nat.reduceMul, Nat.reduceLT, Nat.reduceLeDiff, Nat.reduceEqDiff, Int.reduceToNat, ↓reduceIte, hc, hs, Option.map_none, Option.getD_none, Option.isSome_none, Bool.false_eq_true, if_false]
            refine AOp_mapUpdate (strKey un9) avN q.2 (H.length + 2) q.1 x.2.name x.2.args.length rfl (by exact (agetN _ _ 2).trans rfl) rfl rfl un125 ?_
            simp only [push_cast, Nat.reduceAdd, Nat.reduceSub, Nat.reduceMul, Nat.reduceLT, Nat.reduceLeDiff, Nat.reduceEqDiff, Int.reduceToNat, ↓reduceIte, sA]
          | some k =>
            have hc : arC q (x.2.name, x.2.args.length) = !decide (k = x.2.args.length) := by simp [arC, hg]
            by_cases hk : k = x.2.args.length
            · have hc : arC q (x.2.name, x.2.args.length) = false := by rw [hc]; simpa using hk
              have hs : arStep q (x.2.name, x.2.args.length) = (q.1 + 1, aset q.2 x.2.name x.2.args.length) := by simp [arStep, hc]
              subst hk
              simp only [push_cast, Nat.reduceAdd, Nat.reduceSub, Nat.reduceMul, Nat.reduceLT, Nat.reduceLeDiff, Nat.reduceEqDiff, Int.reduceToNat, ↓reduceIte, hc, hs, avN, Option.getD_some, Option.isSome_some, Bool.false_eq_true, if_false]
              refine AOp_mapUpdate (strKey un9) avN q.2 (H.length + 2) q.1 x.2.name x.2.args.length rfl (by exact (agetN _ _ 2).trans rfl) rfl rfl un125 ?_
              simp only [push_cast, Nat.reduceAdd, Nat.reduceSub, Nat.reduceMul, Nat.reduceLT, Nat.reduceLeDiff, Nat.reduceEqDiff, Int.reduceToNat, ↓reduceIte, sA]
            · have hc : arC q (x.2.name, x.2.args.length) = true := by rw [hc]; simpa using hk
              have hs : arStep q (x.2.name, x.2.args.length) = q := by simp [arStep, hc]
              have hkz : decide ((k : Int) = (x.2.args.length : Int)) = false := by rw [decide_eq_false_iff_not]; omega
              simp only [push_cast, Nat.reduceAdd, Nat.reduceSub, Nat.reduceMul, Nat.reduceLT, Nat.reduceLeDiff, Nat.reduceEqDiff, Int.reduceToNat, ↓reduceIte, hc, hs, avN, Option.getD_some, Option.isSome_some, if_true, hkz]
      · have hbad := arNx_ok q0 _ _ rfl hN
        rw [← hB2] at hbad
        simp only [push_cast, Nat.reduceAdd, Nat.reduceSub, Nat.reduceMul, Nat.reduceLT, Nat.reduceLeDiff, Nat.reduceEqDiff, Int.reduceToNat, ↓reduceIte]
        repeat' first | refine ⟨by omega, ?_⟩ | refine cI (fun _ => ?_) (fun _ => ?_)
        refine loopW_n (j + 1) ⟨by omega, hbad⟩ (by omega) ?_
        rw [hE2]
        simp only [push_cast, Nat.reduceAdd, Nat.reduceSub, Nat.reduceMul, Nat.reduceLT, Nat.reduceLeDiff, Nat.reduceEqDiff, Int.reduceToNat, ↓reduceIte]
      · obtain ⟨rfl, hbad⟩ := arNx_bad q0 pre suf x c hc
        rw [← he, ← hB2] at hbad
        have hB : arB rs = true := by
          have e0 := rT_split rs i hil
          have h5 := hi.2
          unfold arB at h5 ⊢
          rw [e0, hlr, nodesL_app, arBad_app, h5, Bool.false_or, nodesL_app, arBad_app]
          have e6 : arBad (arE (rs.take i)) (nodesL [l, r]) = true := by
            have hj01 : j = 0 ∨ j = 1 := by omega
            rcases hj01 with rfl | rfl
            · have : [l, r] = [l, r].take 1 ++ [r] := rfl
              rw [this, nodesL_app, arBad_app, hbad]; rfl
            · exact hbad
          show (arBad (arE (rs.take i)) (nodesL [l, r]) || _) = true
          rw [e6]; rfl
        simp only [push_cast, Nat.reduceAdd, Nat.reduceSub, Nat.reduceMul, Nat.reduceLT, Nat.reduceLeDiff, Nat.reduceEqDiff, Int.reduceToNat, ↓reduceIte, hB]
        exact ⟨_, _, rfl, fun h => h.elim⟩
    · have hj2 : j = 2 := by omega
      subst hj2
      have e1 : rT (rs.take (i + 1)) = rT (rs.take i) ++ [l, r] := by rw [rT_take rs i hil, hlr]
      have e2 : arE (rs.take (i + 1)) = arF (arE (rs.take i)) (nodesL [l, r]) := by unfold arE; rw [e1, nodesL_app, arF_app]
      have e3 : arB (rs.take (i + 1)) = false := by
        have h5 := hi.2
        unfold arB at h5 ⊢
        rw [e1, nodesL_app, arBad_app, h5, Bool.false_or]; exact hj.2
      repeat' first | refine ⟨by omega, ?_⟩ | refine cI (fun _ => ?_) (fun _ => ?_)
      refine loopW_n (i + 1) ⟨by omega, e3⟩ (by omega) ?_
      rw [e2]
      simp only [push_cast, Nat.reduceAdd, Nat.reduceSub, Nat.reduceMul, Nat.reduceLT, Nat.reduceLeDiff, Nat.reduceEqDiff, Int.reduceToNat, ↓reduceIte, List.take_succ_cons, List.take_zero]
  · rw [List.take_of_length_le (show rs.length ≤ i by omega)] at hi ⊢
    simp only [push_cast, Nat.reduceAdd, Nat.reduceSub, Nat.reduceMul, Nat.reduceLT, Nat.reduceLeDiff, Nat.reduceEqDiff, Int.reduceToNat, ↓reduceIte, hi.2]
    exact ⟨_, _, rfl, fun _ => ⟨rfl, rfl⟩⟩
end Ab
set_option maxRecDepth 10000
namespace Go.Proofs
open Go.Shelf Go.RowKit Go.Lib Go.Sort
end Go.Proofs
namespace Ab
open Go Go.Proofs
@[reducible] def encSy (s : List UInt8 × Nat) : AV := .agg [.str s.1, .int .i64 (s.2 : Nat)]
theorem uniSy (l : List (List UInt8 × Nat)) : Uni (1 + 1) (encL encSy l) = True := eq_true (uni_encL (enc := encSy) (k := 2) (fun _ => rfl) l)
theorem scSy_ (n : Nat) (l : List (List UInt8 × Nat)) : ScopedL n (encL encSy l) = True := eq_true (scoped_encL (fun x => by simp [Scoped, ScopedL]) l)
theorem scflSy (n : Nat) (l : List (List UInt8 × Nat)) : ScopedL n (flat (encL encSy l)) = True := by
  refine eq_true ?_
  rw [ScopedL_iff]
  intro v hv
  unfold flat encL at hv
  rw [List.mem_flatMap] at hv
  obtain ⟨a, ha, hv⟩ := hv
  obtain ⟨b, _, rfl⟩ := List.mem_map.1 ha
  simp only [AV.cells, List.mem_cons, List.not_mem_nil, or_false] at hv
  rcases hv with rfl | rfl <;> simp [Scoped]
attribute [push_cast] uniSy scSy_ scflSy
def sysP (rs : List (Term × Term)) : Int := if rulesP rs ≠ 0 then rulesP rs else if arB rs then 6 else if (arE rs).2.any (fun s => markedP s.1) then 6 else if rs.any extraP then 7 else 0
theorem rules_ok {rs : List (Term × Term)} (h : rulesP rs = 0) : rs.length ≤ 64 ∧ ∀ r, r ∈ rs → checkP r.1 = 0 ∧ checkP r.2 = 0 := by
  unfold rulesP at h
  split at h
  · cases h
  · rename_i h1
    refine ⟨by omega, fun r hr => ?_⟩
    rw [firstErr_iff] at h
    exact ⟨h _ (mem_rT.2 ⟨r, hr, .inl rfl⟩), h _ (mem_rT.2 ⟨r, hr, .inr rfl⟩)⟩
def BndR (rs : List (Term × Term)) : Prop := ∀ r, r ∈ rs → r.1.bulk ≤ 1099511627770 ∧ r.2.bulk ≤ 1099511627770
theorem nodes_key {L : List (List UInt8 × Nat)} {q : Nat × List (List UInt8 × Nat)} : ∀ x, x ∈ (arF q L).2 → (∃ y, y ∈ q.2 ∧ y.1 = x.1) ∨ ∃ y, y ∈ L ∧ y.1 = x.1 := by
  induction L generalizing q with
  | nil => intro x hx; exact .inl ⟨x, hx, rfl⟩
  | cons s r ih =>
    intro x hx
    rcases ih (q := arStep q s) x hx with ⟨y, hy, e⟩ | ⟨y, hy, e⟩
    · have : (∃ z, z ∈ q.2 ∧ z.1 = y.1) ∨ y.1 = s.1 := by
        unfold arStep at hy
        split at hy
        · exact .inl ⟨y, hy, rfl⟩
        · have : ∀ (m : List (List UInt8 × Nat)), y ∈ aset m s.1 s.2 → (∃ z, z ∈ m ∧ z.1 = y.1) ∨ y.1 = s.1 := by
            intro m
            induction m with
            | nil => intro h; simp [aset] at h; rw [h]; exact .inr rfl
            | cons p m ih2 =>
              intro h
              unfold aset at h
              split at h
              · rcases List.mem_cons.1 h with h | h
                · rw [h]; exact .inr rfl
                · exact .inl ⟨y, by simp [h], rfl⟩
              · rcases List.mem_cons.1 h with h | h
                · exact .inl ⟨y, by simp [h], rfl⟩
                · rcases ih2 h with ⟨z, hz, e2⟩ | h
                  · exact .inl ⟨z, by simp [hz], e2⟩
                  · exact .inr h
          exact this _ hy
      rcases this with ⟨z, hz, e2⟩ | e2
      · exact .inl ⟨z, hz, e2.trans e⟩
      · exact .inr ⟨s, by simp, by rw [← e, e2]⟩
    · exact .inr ⟨y, by simp [hy], e⟩
theorem nodes_name : ∀ (ts : List Term) x, x ∈ nodesL ts → ∃ t, t ∈ ts ∧ x.1.length < t.bulk
  | [], x, h => by simp [nodesL] at h
  | .mk n u xs :: r, x, h => by
    rw [nodesL, List.mem_append, List.mem_append] at h
    rcases h with h | h | h
    · refine ⟨_, List.mem_cons_self, ?_⟩
      unfold ndT at h
      split at h
      · cases h
      · rw [List.mem_singleton] at h; rw [h]; exact Term.name_le
    · obtain ⟨t, ht, hl⟩ := nodes_name xs x h
      have := Term.arg_le (n := n) (v := u) ht
      exact ⟨_, List.mem_cons_self, by omega⟩
    · obtain ⟨t, ht, hl⟩ := nodes_name r x h
      exact ⟨t, List.mem_cons_of_mem _ ht, hl⟩
theorem arE_name {rs : List (Term × Term)} (hb : BndR rs) : ∀ x, x ∈ (arE rs).2 → x.1.length < 1099511627776 := by
  intro x hx
  rcases nodes_key x hx with ⟨y, hy, _⟩ | ⟨y, hy, e⟩
  · cases hy
  · obtain ⟨t, ht, hl⟩ := nodes_name _ y hy
    obtain ⟨r, hr, h⟩ := mem_rT.1 ht
    have := hb r hr
    rw [← e]
    rcases h with rfl | rfl <;> omega
theorem checkSystem_ac (rs : List (Term × Term)) (hlen : rs.length < 1099511627776) (hb : BndR rs) (H : List AObj) : ACall Tryz.prog 73 [.sl .none (encL encRu rs)] H (fun r H' => r = .int .i64 (sysP rs) ∧ H' = H) := by
  have hb' : ∀ r, r ∈ rs → r.1.bulk ≤ 1099511627775 ∧ r.2.bulk ≤ 1099511627775 := fun r hr => by have := hb r hr; omega
  refine ACall_V (H.length) 28 [.tmp 2] Tryz.func73 rfl rfl rfl ?_
  simp only [push_cast, Nat.reduceAdd, Nat.reduceSub, Nat.reduceMul, Nat.reduceLT, Nat.reduceLeDiff, Nat.reduceEqDiff, Int.reduceToNat, ↓reduceIte]
  refine (checkRules_ac rs hlen hb' _).to ?_
  simp only [push_cast, Nat.reduceAdd, Nat.reduceSub, Nat.reduceMul, Nat.reduceLT, Nat.reduceLeDiff, Nat.reduceEqDiff, Int.reduceToNat, ↓reduceIte]
  refine cI (fun h1 => ?_) (fun h1 => ?_)
  · refine (arities_ac rs hlen hb' _).mono ?_
    rintro r H' ⟨rfl, v, es, rfl, hve⟩
    cases hB : arB rs with
    | true =>
      have e : sysP rs = 6 := by simp [sysP, h1, hB]
      simp only [push_cast, Nat.reduceAdd, Nat.reduceSub, Nat.reduceMul, Nat.reduceLT, Nat.reduceLeDiff, Nat.reduceEqDiff, Int.reduceToNat, ↓reduceIte, e, Bool.not_true]
    | false =>
      obtain ⟨rfl, rfl⟩ := hve hB
      simp only [push_cast, Nat.reduceAdd, Nat.reduceSub, Nat.reduceMul, Nat.reduceLT, Nat.reduceLeDiff, Nat.reduceEqDiff, Int.reduceToNat, ↓reduceIte, Bool.not_false, Bool.false_eq_true, if_false]
      have hnm := arE_name hb
      obtain ⟨q, hq⟩ : ∃ q, q = arE rs := ⟨_, rfl⟩
      rw [← hq] at hnm ⊢
      refine AOp_range_map (H.length + 2) q.1 (sA q.2) rfl (by exact (agetN _ _ 2).trans rfl) un125 ?_
      simp only [push_cast, Nat.reduceAdd, Nat.reduceSub, Nat.reduceMul, Nat.reduceLT, Nat.reduceLeDiff, Nat.reduceEqDiff, Int.reduceToNat, ↓reduceIte]
      refine AW_loopW (maskG 29 [0, 19]) (fun (p : List (List UInt8 × Nat) × List (List UInt8 × Nat) × Option (List UInt8 × Nat)) => []) (fun p => H ++ [.cells [.map (H.length + 2)], .cells [.bool true], .map q.1 (sA q.2), .iter (H.length + 2) q.1 (sA p.2.1) (lN p.2.2)]) (fun p => (p.1 ++ p.2.1).Perm q.2 ∧ p.1.any (fun s => markedP s.1) = false) (fun p => p.2.1.length) ([], q.2, none) ⟨List.Perm.refl _, rfl⟩ (by simp only [push_cast, Nat.reduceAdd, Nat.reduceSub, Nat.reduceMul, Nat.reduceLT, Nat.reduceLeDiff, Nat.reduceEqDiff, Int.reduceToNat, ↓reduceIte, lN_n]) (fun p hp => ?_)
      obtain ⟨xs, left, last⟩ := p
      obtain ⟨hp, hall⟩ := hp
      simp only at hp hall
      simp only [push_cast, Nat.reduceAdd, Nat.reduceSub, Nat.reduceMul, Nat.reduceLT, Nat.reduceLeDiff, Nat.reduceEqDiff, Int.reduceToNat, ↓reduceIte]
      refine AOp_next_map (H.length + 3) (H.length + 2) q.1 (sA q.2) (sA left) (lN last) rfl (by exact (agetN _ _ 3).trans rfl) (by exact (agetN _ _ 2).trans rfl) (fun he => ?_) (fun j hj => ?_)
      · have hl0 : left = [] := by cases left with | nil => rfl | cons a l => simp [sA, amap] at he
        subst hl0
        rw [List.append_nil] at hp
        have hm : q.2.any (fun s => markedP s.1) = false := by
          rw [← Bool.not_eq_true, List.any_eq_true] at hall ⊢
          rintro ⟨x, hx, hxm⟩
          exact hall ⟨x, hp.mem_iff.2 hx, hxm⟩
        simp only [push_cast, Nat.reduceAdd, Nat.reduceSub, Nat.reduceMul, Nat.reduceLT, Nat.reduceLeDiff, Nat.reduceEqDiff, Int.reduceToNat, ↓reduceIte]
        refine (containsRu_ac rs 105 [] extraP _ hlen ok105 (by simp [ScopedL]) (fun i h => extra_ac _ (hb _ (List.getElem_mem h)).1 (hb _ (List.getElem_mem h)).2 _)).to ?_
        simp only [push_cast, Nat.reduceAdd, Nat.reduceSub, Nat.reduceMul, Nat.reduceLT, Nat.reduceLeDiff, Nat.reduceEqDiff, Int.reduceToNat, ↓reduceIte]
        refine cI (fun hx => ?_) (fun hx => ?_)
        · have e : sysP rs = 7 := by simp only [sysP, h1, hB, ← hq, hm]; simp [hx]
          simp only [push_cast, Nat.reduceAdd, Nat.reduceSub, Nat.reduceMul, Nat.reduceLT, Nat.reduceLeDiff, Nat.reduceEqDiff, Int.reduceToNat, ↓reduceIte, e]
        · have e : sysP rs = 0 := by simp only [sysP, h1, hB, ← hq, hm]; simp [hx]
          simp only [push_cast, Nat.reduceAdd, Nat.reduceSub, Nat.reduceMul, Nat.reduceLT, Nat.reduceLeDiff, Nat.reduceEqDiff, Int.reduceToNat, ↓reduceIte, e]
      · have hjl : j < left.length := by rw [sA_len] at hj; exact hj
        have e1 : (sA left)[j] = (.str left[j].1, avN left[j].2) := by simp [sA, amap]
        have e2 : (sA left).eraseIdx j = sA (left.eraseIdx j) := by simp only [sA, amap, erase_map]
        have hmm : left[j] ∈ q.2 := hp.mem_iff.1 (by simp)
        rw [e1, e2]
        simp only [push_cast, Nat.reduceAdd, Nat.reduceSub, Nat.reduceMul, Nat.reduceLT, Nat.reduceLeDiff, Nat.reduceEqDiff, Int.reduceToNat, ↓reduceIte]
        refine AOp_entry_map (H.length + 3) (H.length + 2) q.1 (sA q.2) (sA (left.eraseIdx j)) (.str left[j].1, avN left[j].2) rfl (by exact (agetN _ _ 3).trans rfl) (by exact (agetN _ _ 2).trans rfl) ?_
        simp only [push_cast, Nat.reduceAdd, Nat.reduceSub, Nat.reduceMul, Nat.reduceLT, Nat.reduceLeDiff, Nat.reduceEqDiff, Int.reduceToNat, ↓reduceIte]
        refine (markedT_ac left[j].1 (hnm _ hmm) _).to ?_
        simp only [push_cast, Nat.reduceAdd, Nat.reduceSub, Nat.reduceMul, Nat.reduceLT, Nat.reduceLeDiff, Nat.reduceEqDiff, Int.reduceToNat, ↓reduceIte]
        refine cI (fun hx => ?_) (fun hx => ?_)
        · have hm : q.2.any (fun s => markedP s.1) = true := List.any_eq_true.2 ⟨_, hmm, hx⟩
          have e : sysP rs = 6 := by simp only [sysP, h1, hB, ← hq, hm]; simp
          simp only [push_cast, Nat.reduceAdd, Nat.reduceSub, Nat.reduceMul, Nat.reduceLT, Nat.reduceLeDiff, Nat.reduceEqDiff, Int.reduceToNat, ↓reduceIte, e]
        · refine loopW_n (xs ++ [left[j]], left.eraseIdx j, some left[j]) ⟨?_, ?_⟩ (by simp only [List.length_eraseIdx]; split <;> omega) (by simp only [push_cast, Nat.reduceAdd, Nat.reduceSub, Nat.reduceMul, Nat.reduceLT, Nat.reduceLeDiff, Nat.reduceEqDiff, Int.reduceToNat, ↓reduceIte, lN_s])
          · refine List.Perm.trans ?_ hp
            rw [List.append_assoc]
            refine List.Perm.append_left xs ?_
            rw [List.eraseIdx_eq_take_drop_succ]
            refine (List.perm_middle (l₁ := left.take j) (l₂ := left.drop (j + 1)) (a := left[j])).symm.trans ?_
            rw [← List.drop_eq_getElem_cons hjl, List.take_append_drop]
          · rw [List.any_append, hall]; simpa using hx
  · have e : sysP rs = rulesP rs := by simp [sysP, h1]
    simp only [push_cast, Nat.reduceAdd, Nat.reduceSub, Nat.reduceMul, Nat.reduceLT, Nat.reduceLeDiff, Nat.reduceEqDiff, Int.reduceToNat, ↓reduceIte, e]
end Ab
set_option maxRecDepth 10000
namespace Ab
open Go Go.Proofs
@[reducible] def encSt (s : Int × List Int) : AV := .agg [.int .i64 s.1, .sl .none (encP s.2)]
theorem cellSt : ∀ (x : Int × List Int) c, c ∈ (encSt x).cells → c.isCell = true := by
  intro x c hc
  simp only [encSt, AV.cells, List.mem_cons, List.not_mem_nil, or_false] at hc
  rcases hc with rfl | rfl <;> rfl
theorem uniSt (l : List (Int × List Int)) : Uni (1 + 1) (encL encSt l) = True := eq_true (uni_encL (enc := encSt) (k := 2) (fun _ => rfl) l)
theorem scSt_ (n : Nat) (l : List (Int × List Int)) : ScopedL n (encL encSt l) = True := eq_true (scoped_encL (fun x => by simp [Scoped, ScopedL, scoped_encP]) l)
attribute [push_cast] uniSt scSt_
def SysB (rs : List (Term × Term)) : Prop := rs.length ≤ 64 ∧ ∀ r, r ∈ rs → r.1.bulk ≤ 1099511627770 ∧ r.2.bulk ≤ 1099511627770
theorem at_ac' (rs : List (Term × Term)) (hr : SysB rs) (p : List Int) (hp : p.length < 1099511627770) (s : Term) (hs : s.bulk ≤ 1099511627775) (H : List AObj) :
    ACall Tryz.prog 82 [.sl .none (encL encRu rs), .sl .none (encP p), encT s] H (fun r H' => r = .sl .none (encL encSt (atV rs p s)) ∧ H' = H) := by
  obtain ⟨hr1, hr2⟩ := hr
  refine ACall_VA (H.length) 35 [.tmp 6] Tryz.func82 rfl rfl rfl ?_
  refine AW_reserve 1 ?_
  refine AW_of_W ?_
  simp only [push_cast, Nat.reduceAdd, Nat.reduceSub, Nat.reduceMul, Nat.reduceLT, Nat.reduceLeDiff, Nat.reduceEqDiff, Int.reduceToNat, ↓reduceIte]
  refine AW_loopW (maskG 38 [1, 3, 1, 4, 0, 0]) (fun (i : Nat) => [(14, .int .i64 i), (7, gSl H.length (encL encSt (atF (rs.take i) 0 p s)))]) (fun i => H ++ [gTok 48 2 (encL encSt (atF (rs.take i) 0 p s)), .cells [.str s.name, .bool s.var, .sl .none (encTs s.args)]]) (fun i => i ≤ rs.length ∧ (s.var = true → i = 0)) (fun i => rs.length - i) 0 ⟨Nat.zero_le _, fun _ => rfl⟩ (by simp only [push_cast, Nat.reduceAdd, Nat.reduceSub, Nat.reduceMul, Nat.reduceLT, Nat.reduceLeDiff, Nat.reduceEqDiff, Int.reduceToNat, ↓reduceIte, List.take_zero, atF, encL_nil]) (fun i hi => ?_)
  simp only [push_cast, Nat.reduceAdd, Nat.reduceSub, Nat.reduceMul, Nat.reduceLT, Nat.reduceLeDiff, Nat.reduceEqDiff, Int.reduceToNat, ↓reduceIte]
  have hal := atF_len (rs.take i) 0 p s
  rw [List.length_take] at hal
  refine cI (fun h => ?_) (fun h => ?_)
  · have hil : i < rs.length := by omega
    have hrb := hr2 _ (List.getElem_mem hil)
    refine ⟨hil, cI (fun hv => ?_) (fun hv => ?_)⟩
    · have hi0 := hi.2 hv
      subst hi0
      simp [atV, hv, atF]
    · refine (find_ac (rs[i]'hil).1 s hrb.1 hs _).to ?_
      have hst := atF_take rs p s i hil
      simp only [push_cast, Nat.reduceAdd, Nat.reduceSub, Nat.reduceMul, Nat.reduceLT, Nat.reduceLeDiff, Nat.reduceEqDiff, Int.reduceToNat, ↓reduceIte]
      refine cI (fun hm => ?_) (fun hm => ?_)
      · rw [if_pos hm] at hst
        refine (clone2_ac p (by omega) _).to ?_
        simp only [push_cast, Nat.reduceAdd, Nat.reduceSub, Nat.reduceMul, Nat.reduceLT, Nat.reduceLeDiff, Nat.reduceEqDiff, Int.reduceToNat, ↓reduceIte]
        refine app1_L encSt (sz := 2) (fun _ => rfl) cellSt _ H.length (atF (rs.take i) 0 p s) ((i : Int), p) _ rfl rfl (by exact aget0 _ _ _) sl27 sz48 by48 zr48 rfl (by decide) (by decide) (by omega) ?_
        rw [← hst]
        simp only [push_cast, Nat.reduceAdd, Nat.reduceSub, Nat.reduceMul, Nat.reduceLT, Nat.reduceLeDiff, Nat.reduceEqDiff, Int.reduceToNat, ↓reduceIte]
        repeat' first | refine ⟨by omega, ?_⟩ | refine cI (fun _ => ?_) (fun _ => ?_)
        exact loopW_n (i + 1) ⟨by omega, fun hv' => absurd hv' hv⟩ (by omega) (by simp only [push_cast, Nat.reduceAdd, Nat.reduceSub, Nat.reduceMul, Nat.reduceLT, Nat.reduceLeDiff, Nat.reduceEqDiff, Int.reduceToNat, ↓reduceIte])
      · rw [if_neg hm, List.append_nil] at hst
        repeat' first | refine ⟨by omega, ?_⟩ | refine cI (fun _ => ?_) (fun _ => ?_)
        refine loopW_n (i + 1) ⟨by omega, fun hv' => absurd hv' hv⟩ (by omega) ?_
        rw [hst]
        simp only [push_cast, Nat.reduceAdd, Nat.reduceSub, Nat.reduceMul, Nat.reduceLT, Nat.reduceLeDiff, Nat.reduceEqDiff, Int.reduceToNat, ↓reduceIte]
  · have hil : i = rs.length := by omega
    subst hil
    rw [List.take_length]
    cases hv : s.var with
    | true =>
      have h0 := hi.2 hv
      have e := List.eq_nil_of_length_eq_zero h0
      subst e
      simp [atV, hv, atF]
    | false => simp [atV, hv]
end Ab
set_option maxRecDepth 10000
namespace Ab
open Go Go.Proofs Go.Proofs.YtgbmjnpbojcbdaaGreat
section
variable {H : Type}
theorem kdStep : kindOf Tryz.prog 48 = .struct [3, 46] := by kernel_rfl
theorem step_form (n : Nat) (d : DataW H) (avs : List AV) (h : toAV Tryz.prog n 48 d = some avs) : ∃ s : Int × List Int, .agg avs = encSt s ∧ s.2.length + 1 ≤ Rows.uptoBulk d := by
  obtain ⟨m, parts, avss, rfl, rfl, hl, hm, rfl⟩ := toAV_struct kdStep h
  match parts, hl, hm with
  | [d1, d2], _, hm =>
    obtain ⟨h1, h2⟩ := mapM_get hm
    match avss, h1, h2 with
    | [a1, a2], _, h2 =>
      obtain ⟨a, _, rfl⟩ := toAV_int kdInt (h2 0 (by simp) (by simp))
      obtain ⟨p, rfl, b2⟩ := pos_form m d2 a2 (h2 1 (by simp) (by simp))
      exact ⟨(a, p), by simp, by have := bulk_pos d1; simp only [Rows.uptoBulk, Rows.uptoBulkAll]; omega⟩
end
end Ab
set_option maxRecDepth 10000
namespace Ab
open Go Go.Proofs
theorem gSl_ex (k : Nat) (xs : List AV) : ∃ tk, gSl k xs = .sl tk xs := by cases xs <;> exact ⟨_, rfl⟩
theorem inner_ac (rs : List (Term × Term)) (hr : SysB rs) (t : Term) : t.bulk ≤ 1000000000 → ∀ p : List Int, p.length + t.depth ≤ 1099511627000 → ∀ H, ACall Tryz.prog 75 [.sl .none (encL encRu rs), encT t, .sl .none (encP p)] H (fun r H' => r = .sl .none (encL encSt (innT rs t p)) ∧ H' = H) := by
  induction t using Term.ind with | _ n u xs ih
  intro hb p hp H
  have hlx := Term.len_le (n := n) (v := u) (xs := xs)
  have hsz := (Term.mk n u xs).size_le
  rw [Term.size_mk] at hsz
  rw [Term.depth_mk] at hp
  have hr1 := hr.1
  have hcnt : ∀ i, (innL rs (xs.take i) 0 p).length ≤ 64 * 1000000000 := fun i => by
    have h1 := innL_len rs p (xs.take i) 0
    have h2 := take_sum_le Term.size xs i
    have h3 : ((xs.take i).map Term.size).sum * rs.length ≤ 1000000000 * 64 := Nat.mul_le_mul (by omega) hr1
    omega
  refine ACall_VA (H.length) 34 [.tmp 6] Tryz.func75 rfl rfl rfl ?_
  refine AW_reserve 1 ?_
  refine AW_of_W ?_
  simp only [push_cast, Nat.reduceAdd, Nat.reduceSub, Nat.reduceMul, Nat.reduceLT, Nat.reduceLeDiff, Nat.reduceEqDiff, Int.reduceToNat, ↓reduceIte]
  refine AW_loopW (maskG 37 [0, 1, 1, 2, 3, 0, 0]) (fun (i : Nat) => [(13, .int .i64 i), (7, gSl H.length (encL encSt (innL rs (xs.take i) 0 p)))]) (fun i => H ++ [gTok 48 2 (encL encSt (innL rs (xs.take i) 0 p)), .cells [.str n, .bool u, .sl .none (encTs xs)]]) (fun i => i ≤ xs.length) (fun i => xs.length - i) 0 (Nat.zero_le _) (by simp only [push_cast, Nat.reduceAdd, Nat.reduceSub, Nat.reduceMul, Nat.reduceLT, Nat.reduceLeDiff, Nat.reduceEqDiff, Int.reduceToNat, ↓reduceIte, List.take_zero, innL_nil, encL_nil]) (fun i hi => ?_)
  simp only [push_cast, Nat.reduceAdd, Nat.reduceSub, Nat.reduceMul, Nat.reduceLT, Nat.reduceLeDiff, Nat.reduceEqDiff, Int.reduceToNat, ↓reduceIte]
  refine cI (fun h => ?_) (fun h => ?_)
  · have hil : i < xs.length := by omega
    repeat refine ⟨by omega, ?_⟩
    have hmem := List.getElem_mem hil
    have hdx := (le_foldl_max Term.depth xs 0).2 _ hmem
    have hbx := Term.arg_le (n := n) (v := u) hmem
    have hst := innL_take rs xs p i hil
    have hc1 := hcnt i
    have hc2 := inn_len rs xs[i] (p ++ [(i : Int)])
    have hc3 : xs[i].size * rs.length ≤ 1000000000 * 64 := Nat.mul_le_mul (by have := xs[i].size_le; omega) hr1
    have ih' := fun X => ih _ hmem (by omega) (p ++ [(i : Int)]) (by simp; omega) X
    by_cases hp0 : p = []
    · skip
      apply AW_drawO [[7], [], [], [], [], [], [], [], [], [], []] [some 18, some 19, some 20, some 21, some 22, some 23, some 24, some 25, some 26, some 27, some 7] [([false, false, false, false], _), ([true, false, false, false], _), ([true, true, false, false], _), ([true, true, true, false], _), ([true, true, true, true], _)] [none, none, none, none, some 0, none, none, some 1, some 2, some 3, none] 4 [(0, [false, false, false, false], [7]), (1, [false, false, false, false], [0]), (2, [false, false, false, false], [9]), (3, [false, false, false, false], [2]), (4, [false, false, false, false], [21]), (5, [true, false, false, false], [8]), (6, [true, false, false, false], [23]), (7, [true, false, false, false], [22, 1]), (8, [true, true, false, false], [19, 0, 4]), (9, [true, true, true, false], [18, 7]), (10, [true, true, true, true], [27]), (0, [true, false, false, false], [7]), (0, [true, true, false, false], [7]), (0, [true, true, true, false], [7]), (1, [true, false, false, false], [0]), (1, [true, true, false, false], [0]), (2, [true, false, false, false], [9]), (2, [true, true, false, false], [9]), (5, [false, false, false, false], [8]), (5, [true, true, false, false], [8]), (5, [true, true, true, false], [8]), (5, [true, true, true, true], [8]), (6, [false, false, false, false], [23])] [_, _, _, _, _, _, _, _, _, _, _]
      case' hm => exact dr
      case' hn => rfl
      case' hok => rfl
      case' hlen => rfl
      case' hd => rfl
      case' h0 => rfl
      case' hstep =>
       simp only [DAllO, push_cast, Option.isSome_some, Option.isSome_none]
       repeat' apply And.intro
       all_goals (apply DOne_V; simp only [push_cast, Nat.reduceAdd, Nat.reduceSub, Nat.reduceMul, Nat.reduceLT, Nat.reduceLeDiff, Nat.reduceEqDiff, Int.reduceToNat, ↓reduceIte] <;> first | exact rfl | omega | exact ⟨rfl, rfl⟩ | exact trivial | exact ⟨by omega, rfl⟩ | exact ⟨by omega, by omega, rfl⟩ | exact ⟨by omega, rfl, rfl⟩ | exact ⟨by omega, by omega, rfl, rfl⟩ | (refine (clone_ac p (by omega) _).mono ?_; rintro r H' (⟨hcl, rfl, rfl⟩ | ⟨hcl, rfl, rfl⟩) <;> first | exact absurd hp0 hcl | exact ⟨rfl, rfl⟩) | (refine AOp_append_zero _ _ _ rfl rfl sl46 sz3 by3 zr3 rfl (by decide) (by intro x hx; simp at hx; subst hx; rfl) (by simp [flat, AV.cells, AV.isCell]) (by simp) (by simp) (by simp) ?_; simp only [push_cast, Nat.reduceAdd, Nat.reduceSub, Nat.reduceMul, Nat.reduceLT, Nat.reduceLeDiff, Nat.reduceEqDiff, Int.reduceToNat, ↓reduceIte]; exact ⟨rfl, rfl⟩) | (refine ACall.forget (args' := [.sl .none (encL encRu rs), encT xs[i], .sl .none (encP (p ++ [(i : Int)]))]) ⟨Forget.refl _, Forget.refl _, by first | (rw [← encP_snoc]; exact Forget.tok _ _) | (have he : encP (p ++ [(i : Int)]) = [.int .i64 i] := (by rw [hp0]; rfl); rw [he]; exact Forget.tok _ _), trivial⟩ ((ih' _).to ⟨rfl, rfl⟩)) | (refine app_L encSt (sz := 2) (fun _ => rfl) cellSt _ H.length (innL rs (xs.take i) 0 p) (innT rs xs[i] (p ++ [(i : Int)])) _ rfl rfl (by exact aget0 _ _ _) sl27 sz48 by48 zr48 rfl (by decide) (by decide) (by omega) ?_; simp only [push_cast, Nat.reduceAdd, Nat.reduceSub, Nat.reduceMul, Nat.reduceLT, Nat.reduceLeDiff, Nat.reduceEqDiff, Int.reduceToNat, ↓reduceIte]; exact ⟨rfl, rfl⟩))
      case' hQ => skip
      rw [← hst]
      simp only [push_cast, Nat.reduceAdd, Nat.reduceSub, Nat.reduceMul, Nat.reduceLT, Nat.reduceLeDiff, Nat.reduceEqDiff, Int.reduceToNat, ↓reduceIte]
      repeat' first | refine ⟨by omega, ?_⟩ | refine cI (fun _ => ?_) (fun _ => ?_)
      exact loopW_n (i + 1) (by omega) (by omega) (by simp only [push_cast, Nat.reduceAdd, Nat.reduceSub, Nat.reduceMul, Nat.reduceLT, Nat.reduceLeDiff, Nat.reduceEqDiff, Int.reduceToNat, ↓reduceIte])
    · skip
      apply AW_drawO [[7], [], [], [], [], [], [], [], [], [], []] [some 18, some 19, some 20, some 21, some 22, some 23, some 24, some 25, some 26, some 27, some 7] [([false, false, false, false], _), ([true, false, false, false], _), ([true, true, false, false], _), ([true, true, true, false], _), ([true, true, true, true], _)] [none, none, none, none, some 0, none, none, some 1, some 2, some 3, none] 4 [(0, [false, false, false, false], [7]), (1, [false, false, false, false], [0]), (2, [false, false, false, false], [9]), (3, [false, false, false, false], [2]), (4, [false, false, false, false], [21]), (5, [true, false, false, false], [8]), (6, [true, false, false, false], [23]), (7, [true, false, false, false], [22, 1]), (8, [true, true, false, false], [19, 0, 4]), (9, [true, true, true, false], [18, 7]), (10, [true, true, true, true], [27]), (0, [true, false, false, false], [7]), (0, [true, true, false, false], [7]), (0, [true, true, true, false], [7]), (1, [true, false, false, false], [0]), (1, [true, true, false, false], [0]), (2, [true, false, false, false], [9]), (2, [true, true, false, false], [9]), (5, [false, false, false, false], [8]), (5, [true, true, false, false], [8]), (5, [true, true, true, false], [8]), (5, [true, true, true, true], [8]), (6, [false, false, false, false], [23])] [_, _, _, _, _, _, _, _, _, _, _]
      case' hm => exact dr
      case' hn => rfl
      case' hok => rfl
      case' hlen => rfl
      case' hd => rfl
      case' h0 => rfl
      case' hstep =>
       simp only [DAllO, push_cast, Option.isSome_some, Option.isSome_none]
       repeat' apply And.intro
       all_goals (apply DOne_V; simp only [push_cast, Nat.reduceAdd, Nat.reduceSub, Nat.reduceMul, Nat.reduceLT, Nat.reduceLeDiff, Nat.reduceEqDiff, Int.reduceToNat, ↓reduceIte] <;> first | exact rfl | omega | exact ⟨rfl, rfl⟩ | exact trivial | exact ⟨by omega, rfl⟩ | exact ⟨by omega, by omega, rfl⟩ | exact ⟨by omega, rfl, rfl⟩ | exact ⟨by omega, by omega, rfl, rfl⟩ | (refine (clone_ac p (by omega) _).mono ?_; rintro r H' (⟨hcl, rfl, rfl⟩ | ⟨hcl, rfl, rfl⟩) <;> first | exact absurd hcl hp0 | exact ⟨rfl, rfl⟩) | (refine AOp_append_own _ _ _ _ _ rfl rfl (by rw [encP_length]; exact (by exact (agetN _ _ 3).trans rfl)) sl46 sz3 by3 zr3 rfl (by decide) (uni_encP p) (by intro x hx; simp at hx; subst hx; rfl) (by simp [flat, AV.cells, AV.isCell]) (by simp only [encP_length, List.length_cons, List.length_nil]; omega) (by simp only [encP_length, List.length_cons, List.length_nil]; omega) ?_; simp only [push_cast, Nat.reduceAdd, Nat.reduceSub, Nat.reduceMul, Nat.reduceLT, Nat.reduceLeDiff, Nat.reduceEqDiff, Int.reduceToNat, ↓reduceIte]; exact ⟨rfl, rfl⟩) | (refine ACall.forget (args' := [.sl .none (encL encRu rs), encT xs[i], .sl .none (encP (p ++ [(i : Int)]))]) ⟨Forget.refl _, Forget.refl _, by first | (rw [← encP_snoc]; exact Forget.tok _ _) | (have he : encP (p ++ [(i : Int)]) = [.int .i64 i] := (by rw [hp0]; rfl); rw [he]; exact Forget.tok _ _), trivial⟩ ((ih' _).to ⟨rfl, rfl⟩)) | (refine app_L encSt (sz := 2) (fun _ => rfl) cellSt _ H.length (innL rs (xs.take i) 0 p) (innT rs xs[i] (p ++ [(i : Int)])) _ rfl rfl (by exact aget0 _ _ _) sl27 sz48 by48 zr48 rfl (by decide) (by decide) (by omega) ?_; simp only [push_cast, Nat.reduceAdd, Nat.reduceSub, Nat.reduceMul, Nat.reduceLT, Nat.reduceLeDiff, Nat.reduceEqDiff, Int.reduceToNat, ↓reduceIte]; exact ⟨rfl, rfl⟩))
      case' hQ => skip
      rw [← hst]
      simp only [push_cast, Nat.reduceAdd, Nat.reduceSub, Nat.reduceMul, Nat.reduceLT, Nat.reduceLeDiff, Nat.reduceEqDiff, Int.reduceToNat, ↓reduceIte]
      repeat' first | refine ⟨by omega, ?_⟩ | refine cI (fun _ => ?_) (fun _ => ?_)
      exact loopW_n (i + 1) (by omega) (by omega) (by simp only [push_cast, Nat.reduceAdd, Nat.reduceSub, Nat.reduceMul, Nat.reduceLT, Nat.reduceLeDiff, Nat.reduceEqDiff, Int.reduceToNat, ↓reduceIte])
  · rw [List.take_of_length_le (show xs.length ≤ i by omega)]
    obtain ⟨tk, htk⟩ := gSl_ex H.length (encL encSt (innL rs xs 0 p))
    rw [htk]
    simp only [push_cast, Nat.reduceAdd, Nat.reduceSub, Nat.reduceMul, Nat.reduceLT, Nat.reduceLeDiff, Nat.reduceEqDiff, Int.reduceToNat, ↓reduceIte]
    refine cI (fun hl => ?_) (fun hl => ?_)
    · have hne : innL rs xs 0 p ≠ [] := fun e => by rw [e] at hl; simp at hl
      have e : innT rs (.mk n u xs) p = innL rs xs 0 p := if_neg hne
      rw [e]
    · have he : innL rs xs 0 p = [] := by
        cases hq : innL rs xs 0 p with
        | nil => rfl
        | cons a r => rw [hq] at hl; simp at hl
      have e : innT rs (.mk n u xs) p = atV rs p (.mk n u xs) := if_pos he
      refine (at_ac' rs hr p (by omega) (.mk n u xs) (by omega) _).to ?_
      simp only [push_cast, Nat.reduceAdd, Nat.reduceSub, Nat.reduceMul, Nat.reduceLT, Nat.reduceLeDiff, Nat.reduceEqDiff, Int.reduceToNat, ↓reduceIte, e]
theorem walkL_at : ∀ (xs : List Term) (i : Nat) (p : List Int) x, x ∈ walkL xs i p → ∃ k : Nat, ∃ h : k < xs.length, ∃ q, x.1 = p ++ ((i + k : Nat) : Int) :: q ∧ atP xs[k] q = some x.2
  | [], _, _, x, hx => by simp [walkL] at hx
  | .mk n v ys :: r, i, p, x, hx => by
    rw [walkL_cons, List.mem_append] at hx
    rcases hx with hx | hx
    · refine ⟨0, by simp, ?_⟩
      simp only [walkT, List.mem_cons, Term.mk_args] at hx
      rcases hx with rfl | hx
      · exact ⟨[], by simp, by simp [atP]⟩
      · obtain ⟨k, h, q, h1, h2⟩ := walkL_at ys 0 (p ++ [(i : Int)]) x hx
        refine ⟨((0 + k : Nat) : Int) :: q, by rw [h1]; simp, ?_⟩
        have := (at_step (.mk n v ys) ((0 + k : Nat) : Int) q).1 ⟨by omega, by show (((0 + k : Nat) : Int)).toNat < ys.length; omega⟩
        simp only [List.getElem_cons_zero]
        rw [this, ← h2]
        congr 1
        show ys[_] = ys[_]
        congr 1; omega
    · obtain ⟨k, h, q, h1, h2⟩ := walkL_at r (i + 1) p x (by exact_mod_cast hx)
      refine ⟨k + 1, by simpa using h, q, by rw [h1]; congr 2; omega, by simpa using h2⟩
theorem walk_at (t : Term) (x : List Int × Term) (h : x ∈ walkT t []) : atP t x.1 = some x.2 := by
  cases t with
  | mk n v ys =>
    simp only [walkT, List.mem_cons, Term.mk_args] at h
    rcases h with rfl | h
    · simp [atP]
    · obtain ⟨k, hk, q, h1, h2⟩ := walkL_at ys 0 [] x h
      rw [h1]
      have := (at_step (.mk n v ys) ((0 + k : Nat) : Int) q).1 ⟨by omega, by show (((0 + k : Nat) : Int)).toNat < ys.length; omega⟩
      rw [List.nil_append, this, ← h2]
      congr 1
      show ys[_] = ys[_]
      congr 1; omega
theorem outer_ac (rs : List (Term × Term)) (hr : SysB rs) (t : Term) : t.bulk ≤ 1000000000 → ∀ p : List Int, p.length + t.depth ≤ 1099511627000 → ∀ H, ACall Tryz.prog 76 [.sl .none (encL encRu rs), encT t, .sl .none (encP p)] H (fun r H' => r = .sl .none (encL encSt (outT rs t p)) ∧ H' = H) := by
  induction t using Term.ind with | _ n u xs ih
  intro hb p hp H
  have hlx := Term.len_le (n := n) (v := u) (xs := xs)
  have hsz := (Term.mk n u xs).size_le
  rw [Term.size_mk] at hsz
  rw [Term.depth_mk] at hp
  have hr1 := hr.1
  have hcnt : ∀ i, (outL rs (xs.take i) 0 p).length ≤ 64 * 1000000000 := fun i => by
    have h1 := outL_len' rs p (xs.take i) 0
    have h2 := take_sum_le Term.size xs i
    have h3 : ((xs.take i).map Term.size).sum * rs.length ≤ 1000000000 * 64 := Nat.mul_le_mul (by omega) hr1
    omega
  refine ACall_VA (H.length) 36 [.tmp 6] Tryz.func76 rfl rfl rfl ?_
  refine AW_reserve 1 ?_
  refine AW_of_W ?_
  simp only [push_cast, Nat.reduceAdd, Nat.reduceSub, Nat.reduceMul, Nat.reduceLT, Nat.reduceLeDiff, Nat.reduceEqDiff, Int.reduceToNat, ↓reduceIte]
  refine (at_ac' rs hr p (by omega) (.mk n u xs) (by omega) _).to ?_
  simp only [push_cast, Nat.reduceAdd, Nat.reduceSub, Nat.reduceMul, Nat.reduceLT, Nat.reduceLeDiff, Nat.reduceEqDiff, Int.reduceToNat, ↓reduceIte]
  refine cI (fun hl => ?_) (fun hl => ?_)
  · have hne : atV rs p (.mk n u xs) ≠ [] := fun e => by rw [e] at hl; simp at hl
    have e : outT rs (.mk n u xs) p = atV rs p (.mk n u xs) := if_neg hne
    simp only [push_cast, Nat.reduceAdd, Nat.reduceSub, Nat.reduceMul, Nat.reduceLT, Nat.reduceLeDiff, Nat.reduceEqDiff, Int.reduceToNat, ↓reduceIte, e]
  · have he : atV rs p (.mk n u xs) = [] := by
      cases hq : atV rs p (.mk n u xs) with
      | nil => rfl
      | cons a r => rw [hq] at hl; simp at hl
    have e : outT rs (.mk n u xs) p = outL rs xs 0 p := if_pos he
    rw [e]
    refine AW_loopW (maskG 39 [0, 1, 5, 11, 0, 0]) (fun (i : Nat) => [(22, .int .i64 i), (8, gSl H.length (encL encSt (outL rs (xs.take i) 0 p)))]) (fun i => H ++ [gTok 48 2 (encL encSt (outL rs (xs.take i) 0 p)), .cells [.str n, .bool u, .sl .none (encTs xs)]]) (fun i => i ≤ xs.length) (fun i => xs.length - i) 0 (Nat.zero_le _) (by simp only [push_cast, Nat.reduceAdd, Nat.reduceSub, Nat.reduceMul, Nat.reduceLT, Nat.reduceLeDiff, Nat.reduceEqDiff, Int.reduceToNat, ↓reduceIte, List.take_zero, outL_nil', encL_nil]) (fun i hi => ?_)
    simp only [push_cast, Nat.reduceAdd, Nat.reduceSub, Nat.reduceMul, Nat.reduceLT, Nat.reduceLeDiff, Nat.reduceEqDiff, Int.reduceToNat, ↓reduceIte]
    refine cI (fun h => ?_) (fun h => ?_)
    · have hil : i < xs.length := by omega
      repeat refine ⟨by omega, ?_⟩
      have hmem := List.getElem_mem hil
      have hdx := (le_foldl_max Term.depth xs 0).2 _ hmem
      have hbx := Term.arg_le (n := n) (v := u) hmem
      have hst := outL_take' rs xs p i hil
      have hc1 := hcnt i
      have hc2 := out_len rs xs[i] (p ++ [(i : Int)])
      have hc3 : xs[i].size * rs.length ≤ 1000000000 * 64 := Nat.mul_le_mul (by have := xs[i].size_le; omega) hr1
      have ih' := fun X => ih _ hmem (by omega) (p ++ [(i : Int)]) (by simp; omega) X
      by_cases hp0 : p = []
      · skip
        apply AW_drawO [[8], [], [], [], [], [], [], [], [], [], []] [some 27, some 28, some 29, some 30, some 31, some 32, some 33, some 34, some 35, some 36, some 8] [([false, false, false, false], _), ([true, false, false, false], _), ([true, true, false, false], _), ([true, true, true, false], _), ([true, true, true, true], _)] [none, none, none, none, some 0, none, none, some 1, some 2, some 3, none] 4 [(0, [false, false, false, false], [8]), (1, [false, false, false, false], [0]), (2, [false, false, false, false], [10]), (3, [false, false, false, false], [2]), (4, [false, false, false, false], [30]), (5, [true, false, false, false], [9]), (6, [true, false, false, false], [32]), (7, [true, false, false, false], [31, 1]), (8, [true, true, false, false], [28, 0, 4]), (9, [true, true, true, false], [27, 7]), (10, [true, true, true, true], [36]), (0, [true, false, false, false], [8]), (0, [true, true, false, false], [8]), (0, [true, true, true, false], [8]), (1, [true, false, false, false], [0]), (1, [true, true, false, false], [0]), (2, [true, false, false, false], [10]), (2, [true, true, false, false], [10]), (5, [false, false, false, false], [9]), (5, [true, true, false, false], [9]), (5, [true, true, true, false], [9]), (5, [true, true, true, true], [9]), (6, [false, false, false, false], [32])] [_, _, _, _, _, _, _, _, _, _, _]
        case' hm => exact dr
        case' hn => rfl
        case' hok => rfl
        case' hlen => rfl
        case' hd => rfl
        case' h0 => rfl
        case' hstep =>
         simp only [DAllO, push_cast, Option.isSome_some, Option.isSome_none]
         repeat' apply And.intro
         all_goals (apply DOne_V; simp only [push_cast, Nat.reduceAdd, Nat.reduceSub, Nat.reduceMul, Nat.reduceLT, Nat.reduceLeDiff, Nat.reduceEqDiff, Int.reduceToNat, ↓reduceIte] <;> first | exact rfl | omega | exact ⟨rfl, rfl⟩ | exact trivial | exact ⟨by omega, rfl⟩ | exact ⟨by omega, by omega, rfl⟩ | exact ⟨by omega, rfl, rfl⟩ | exact ⟨by omega, by omega, rfl, rfl⟩ | (refine (clone_ac p (by omega) _).mono ?_; rintro r H' (⟨hcl, rfl, rfl⟩ | ⟨hcl, rfl, rfl⟩) <;> first | exact absurd hp0 hcl | exact ⟨rfl, rfl⟩) | (refine AOp_append_zero _ _ _ rfl rfl sl46 sz3 by3 zr3 rfl (by decide) (by intro x hx; simp at hx; subst hx; rfl) (by simp [flat, AV.cells, AV.isCell]) (by simp) (by simp) (by simp) ?_; simp only [push_cast, Nat.reduceAdd, Nat.reduceSub, Nat.reduceMul, Nat.reduceLT, Nat.reduceLeDiff, Nat.reduceEqDiff, Int.reduceToNat, ↓reduceIte]; exact ⟨rfl, rfl⟩) | (refine ACall.forget (args' := [.sl .none (encL encRu rs), encT xs[i], .sl .none (encP (p ++ [(i : Int)]))]) ⟨Forget.refl _, Forget.refl _, by first | (rw [← encP_snoc]; exact Forget.tok _ _) | (have he : encP (p ++ [(i : Int)]) = [.int .i64 i] := (by rw [hp0]; rfl); rw [he]; exact Forget.tok _ _), trivial⟩ ((ih' _).to ⟨rfl, rfl⟩)) | (refine app_L encSt (sz := 2) (fun _ => rfl) cellSt _ H.length (outL rs (xs.take i) 0 p) (outT rs xs[i] (p ++ [(i : Int)])) _ rfl rfl (by exact aget0 _ _ _) sl27 sz48 by48 zr48 rfl (by decide) (by decide) (by omega) ?_; simp only [push_cast, Nat.reduceAdd, Nat.reduceSub, Nat.reduceMul, Nat.reduceLT, Nat.reduceLeDiff, Nat.reduceEqDiff, Int.reduceToNat, ↓reduceIte]; exact ⟨rfl, rfl⟩))
        case' hQ => skip
        rw [← hst]
        simp only [push_cast, Nat.reduceAdd, Nat.reduceSub, Nat.reduceMul, Nat.reduceLT, Nat.reduceLeDiff, Nat.reduceEqDiff, Int.reduceToNat, ↓reduceIte]
        repeat' first | refine ⟨by omega, ?_⟩ | refine cI (fun _ => ?_) (fun _ => ?_)
        exact loopW_n (i + 1) (by omega) (by omega) (by simp only [push_cast, Nat.reduceAdd, Nat.reduceSub, Nat.reduceMul, Nat.reduceLT, Nat.reduceLeDiff, Nat.reduceEqDiff, Int.reduceToNat, ↓reduceIte])
      · skip
        apply AW_drawO [[8], [], [], [], [], [], [], [], [], [], []] [some 27, some 28, some 29, some 30, some 31, some 32, some 33, some 34, some 35, some 36, some 8] [([false, false, false, false], _), ([true, false, false, false], _), ([true, true, false, false], _), ([true, true, true, false], _), ([true, true, true, true], _)] [none, none, none, none, some 0, none, none, some 1, some 2, some 3, none] 4 [(0, [false, false, false, false], [8]), (1, [false, false, false, false], [0]), (2, [false, false, false, false], [10]), (3, [false, false, false, false], [2]), (4, [false, false, false, false], [30]), (5, [true, false, false, false], [9]), (6, [true, false, false, false], [32]), (7, [true, false, false, false], [31, 1]), (8, [true, true, false, false], [28, 0, 4]), (9, [true, true, true, false], [27, 7]), (10, [true, true, true, true], [36]), (0, [true, false, false, false], [8]), (0, [true, true, false, false], [8]), (0, [true, true, true, false], [8]), (1, [true, false, false, false], [0]), (1, [true, true, false, false], [0]), (2, [true, false, false, false], [10]), (2, [true, true, false, false], [10]), (5, [false, false, false, false], [9]), (5, [true, true, false, false], [9]), (5, [true, true, true, false], [9]), (5, [true, true, true, true], [9]), (6, [false, false, false, false], [32])] [_, _, _, _, _, _, _, _, _, _, _]
        case' hm => exact dr
        case' hn => rfl
        case' hok => rfl
        case' hlen => rfl
        case' hd => rfl
        case' h0 => rfl
        case' hstep =>
         simp only [DAllO, push_cast, Option.isSome_some, Option.isSome_none]
         repeat' apply And.intro
         all_goals (apply DOne_V; simp only [push_cast, Nat.reduceAdd, Nat.reduceSub, Nat.reduceMul, Nat.reduceLT, Nat.reduceLeDiff, Nat.reduceEqDiff, Int.reduceToNat, ↓reduceIte] <;> first | exact rfl | omega | exact ⟨rfl, rfl⟩ | exact trivial | exact ⟨by omega, rfl⟩ | exact ⟨by omega, by omega, rfl⟩ | exact ⟨by omega, rfl, rfl⟩ | exact ⟨by omega, by omega, rfl, rfl⟩ | (refine (clone_ac p (by omega) _).mono ?_; rintro r H' (⟨hcl, rfl, rfl⟩ | ⟨hcl, rfl, rfl⟩) <;> first | exact absurd hcl hp0 | exact ⟨rfl, rfl⟩) | (refine AOp_append_own _ _ _ _ _ rfl rfl (by rw [encP_length]; exact (by exact (agetN _ _ 3).trans rfl)) sl46 sz3 by3 zr3 rfl (by decide) (uni_encP p) (by intro x hx; simp at hx; subst hx; rfl) (by simp [flat, AV.cells, AV.isCell]) (by simp only [encP_length, List.length_cons, List.length_nil]; omega) (by simp only [encP_length, List.length_cons, List.length_nil]; omega) ?_; simp only [push_cast, Nat.reduceAdd, Nat.reduceSub, Nat.reduceMul, Nat.reduceLT, Nat.reduceLeDiff, Nat.reduceEqDiff, Int.reduceToNat, ↓reduceIte]; exact ⟨rfl, rfl⟩) | (refine ACall.forget (args' := [.sl .none (encL encRu rs), encT xs[i], .sl .none (encP (p ++ [(i : Int)]))]) ⟨Forget.refl _, Forget.refl _, by first | (rw [← encP_snoc]; exact Forget.tok _ _) | (have he : encP (p ++ [(i : Int)]) = [.int .i64 i] := (by rw [hp0]; rfl); rw [he]; exact Forget.tok _ _), trivial⟩ ((ih' _).to ⟨rfl, rfl⟩)) | (refine app_L encSt (sz := 2) (fun _ => rfl) cellSt _ H.length (outL rs (xs.take i) 0 p) (outT rs xs[i] (p ++ [(i : Int)])) _ rfl rfl (by exact aget0 _ _ _) sl27 sz48 by48 zr48 rfl (by decide) (by decide) (by omega) ?_; simp only [push_cast, Nat.reduceAdd, Nat.reduceSub, Nat.reduceMul, Nat.reduceLT, Nat.reduceLeDiff, Nat.reduceEqDiff, Int.reduceToNat, ↓reduceIte]; exact ⟨rfl, rfl⟩))
        case' hQ => skip
        rw [← hst]
        simp only [push_cast, Nat.reduceAdd, Nat.reduceSub, Nat.reduceMul, Nat.reduceLT, Nat.reduceLeDiff, Nat.reduceEqDiff, Int.reduceToNat, ↓reduceIte]
        repeat' first | refine ⟨by omega, ?_⟩ | refine cI (fun _ => ?_) (fun _ => ?_)
        exact loopW_n (i + 1) (by omega) (by omega) (by simp only [push_cast, Nat.reduceAdd, Nat.reduceSub, Nat.reduceMul, Nat.reduceLT, Nat.reduceLeDiff, Nat.reduceEqDiff, Int.reduceToNat, ↓reduceIte])
    · simp only [push_cast, Nat.reduceAdd, Nat.reduceSub, Nat.reduceMul, Nat.reduceLT, Nat.reduceLeDiff, Nat.reduceEqDiff, Int.reduceToNat, ↓reduceIte, List.take_of_length_le (show xs.length ≤ i by omega)]
theorem allSteps_ac (rs : List (Term × Term)) (hr : SysB rs) (t : Term) (hb : t.bulk ≤ 1000000000) (H : List AObj) : ACall Tryz.prog 46 [.sl .none (encL encRu rs), encT t] H (fun r H' => r = .sl .none (encL encSt (allS rs t)) ∧ H' = H) := by
  have hsz := t.size_le
  have hr1 := hr.1
  refine ACall_V (H.length) 17 [.tmp 4] Tryz.func46 rfl rfl rfl ?_
  simp only [push_cast, Nat.reduceAdd, Nat.reduceSub, Nat.reduceMul, Nat.reduceLT, Nat.reduceLeDiff, Nat.reduceEqDiff, Int.reduceToNat, ↓reduceIte]
  refine (walkF_ac t _).to ?_
  simp only [push_cast, Nat.reduceAdd, Nat.reduceSub, Nat.reduceMul, Nat.reduceLT, Nat.reduceLeDiff, Nat.reduceEqDiff, Int.reduceToNat, ↓reduceIte]
  refine AW_reserve 1 ?_
  refine AW_iterW _ _ (walk_iter t (by omega) _) H (fun pre => [.cells [.sl .none (encL encRu rs)], .cells [.str t.name, .bool t.var, .sl .none (encTs t.args)], .cells [gSl (H.length + 4) (encL encSt (allI rs pre))], .cells [.str t.name, .bool t.var, .sl .none (encTs t.args)], gTok 48 2 (encL encSt (allI rs pre))]) 5 (fun _ _ => none) rfl ok112 (by simp only [push_cast, Nat.reduceAdd, Nat.reduceSub, Nat.reduceMul, Nat.reduceLT, Nat.reduceLeDiff, Nat.reduceEqDiff, Int.reduceToNat, ↓reduceIte, allI_nil, encL_nil]) (fun _ => rfl) (fun lp => by simp only [push_cast, Nat.reduceAdd, Nat.reduceSub, Nat.reduceMul, Nat.reduceLT, Nat.reduceLeDiff, Nat.reduceEqDiff, Int.reduceToNat, ↓reduceIte]) (fun p => by simp only [push_cast, Nat.reduceAdd, Nat.reduceSub, Nat.reduceMul, Nat.reduceLT, Nat.reduceLeDiff, Nat.reduceEqDiff, Int.reduceToNat, ↓reduceIte]) (fun _ => rfl) (fun pre x suf X l lp lp' he hn => ?_) (fun _ lp => ?_) (fun pre x suf c lp _ _ h => by cases h)
  · have hx := walk_pos_len t [] x (by rw [he]; simp)
    have hxb : x.2.bulk ≤ t.bulk := (at_bulk _ _ _ (walk_at t x (by rw [he]; simp)))
    have hpl : pre.length < t.size := by have := walkT_length t []; rw [he] at this; simp at this; omega
    have hal := allI_len rs pre
    have hmul : pre.length * rs.length ≤ 1000000000 * 64 := Nat.mul_le_mul (by omega) hr1
    have hav := atV_len rs x.1 x.2
    simp only [push_cast, Nat.reduceAdd, Nat.reduceSub, Nat.reduceMul, Nat.reduceLT, Nat.reduceLeDiff, Nat.reduceEqDiff, Int.reduceToNat, ↓reduceIte, List.drop_length]
    apply AW_drawE [some 12, some 13, some 14, some 15, some 16, some 17, none] [([false, false, false], _), ([true, false, false], _), ([true, true, false], _), ([true, true, true], _)] [none, none, none, none, some 0, some 1, some 2] 3 [(0, [false, false, false], [5]), (1, [false, false, false], [2]), (2, [false, false, false], [6]), (3, [false, false, false], [7]), (4, [false, false, false], [13, 0, 0]), (5, [true, false, false], [12, 3]), (6, [true, true, false], [5, 11]), (0, [true, false, false], [5])] [_, _, _, _, _, _, _]
    case' hm => exact dr
    case' hn => rfl
    case' hok => rfl
    case' hlen => rfl
    case' hd => rfl
    case' h0 => rfl
    case' hstep =>
     simp only [DAllG, push_cast, Option.isSome_some, Option.isSome_none]
     repeat' apply And.intro
     all_goals (apply DOne_V; simp only [push_cast, Nat.reduceAdd, Nat.reduceSub, Nat.reduceMul, Nat.reduceLT, Nat.reduceLeDiff, Nat.reduceEqDiff, Int.reduceToNat, ↓reduceIte] <;> first | exact rfl | omega | exact ⟨rfl, rfl⟩ | exact trivial | exact ⟨by omega, rfl⟩ | exact ⟨by omega, by omega, rfl⟩ | exact ⟨by omega, rfl, rfl⟩ | exact ⟨by omega, by omega, rfl, rfl⟩ | exact (at_ac' rs hr x.1 (by simp at hx; omega) x.2 (by omega) _).to ⟨rfl, rfl⟩ | (refine app_L encSt (sz := 2) (fun _ => rfl) cellSt _ (H.length + 4) (allI rs pre) (atV rs x.1 x.2) _ rfl rfl (by exact (agetN _ _ 4).trans rfl) sl27 sz48 by48 zr48 rfl (by decide) (by decide) (by omega) ?_; simp only [push_cast, Nat.reduceAdd, Nat.reduceSub, Nat.reduceMul, Nat.reduceLT, Nat.reduceLeDiff, Nat.reduceEqDiff, Int.reduceToNat, ↓reduceIte]; exact ⟨rfl, rfl⟩))
    case' hQ => skip
    simp only [push_cast, Nat.reduceAdd, Nat.reduceSub, Nat.reduceMul, Nat.reduceLT, Nat.reduceLeDiff, Nat.reduceEqDiff, Int.reduceToNat, ↓reduceIte, allI_snoc]
  · simp only [push_cast, Nat.reduceAdd, Nat.reduceSub, Nat.reduceMul, Nat.reduceLT, Nat.reduceLeDiff, Nat.reduceEqDiff, Int.reduceToNat, ↓reduceIte, allS]
end Ab
set_option maxRecDepth 10000
namespace Ab
open Go
def belowP (p q : List Int) : Bool := decide (q.length < p.length) && decide (p.take q.length = q)
theorem below_iff (p q : List Int) : belowP p q = true ↔ ∃ a r, p = q ++ a :: r := by
  unfold belowP
  rw [Bool.and_eq_true, decide_eq_true_eq, decide_eq_true_eq]
  constructor
  · rintro ⟨h1, h2⟩
    cases hd : p.drop q.length with
    | nil =>
      have := congrArg List.length hd
      rw [List.length_drop] at this; simp at this; omega
    | cons a r =>
      refine ⟨a, r, ?_⟩
      conv => lhs; rw [← List.take_append_drop q.length p, h2, hd]
  · rintro ⟨a, r, rfl⟩
    simp
theorem walkT_mem {t : Term} {p : List Int} {x : List Int × Term} (h : x ∈ walkT t p) : ∃ q, x.1 = p ++ q := by
  cases t with
  | mk n v xs =>
    rw [walkT, List.mem_cons, Term.mk_args] at h
    rcases h with rfl | h
    · exact ⟨[], by simp⟩
    · have h1 : x.1 ∈ (walkL xs 0 p).map (·.1) := List.mem_map.2 ⟨x, h, rfl⟩
      rw [walkL_pre] at h1
      obtain ⟨q, _, hq⟩ := List.mem_map.1 h1
      exact ⟨q, hq.symm⟩
theorem walkL_mem : ∀ {xs : List Term} {i : Int} {p : List Int} {x : List Int × Term}, x ∈ walkL xs i p → ∃ k : Nat, ∃ q, x.1 = p ++ (i + (k : Int)) :: q
  | [], _, _, _, h => by simp [walkL] at h
  | t :: r, i, p, x, h => by
    rw [walkL_cons, List.mem_append] at h
    rcases h with h | h
    · obtain ⟨q, hq⟩ := walkT_mem h
      exact ⟨0, q, by rw [hq]; simp⟩
    · obtain ⟨k, q, hq⟩ := walkL_mem h
      exact ⟨k + 1, q, by rw [hq]; congr 2; omega⟩
theorem allI_mem {rs : List (Term × Term)} {items : List (List Int × Term)} {s : Int × List Int} (h : s ∈ allI rs items) : ∃ x, x ∈ items ∧ s.2 = x.1 ∧ s ∈ atV rs x.1 x.2 := by
  unfold allI at h
  obtain ⟨x, hx, hs⟩ := List.mem_flatMap.1 h
  exact ⟨x, hx, atV_pos hs, hs⟩
theorem allT_mem {rs : List (Term × Term)} {t : Term} {p : List Int} {s : Int × List Int} (h : s ∈ allI rs (walkT t p)) : ∃ q, s.2 = p ++ q := by
  obtain ⟨x, hx, e, _⟩ := allI_mem h
  obtain ⟨q, hq⟩ := walkT_mem hx
  exact ⟨q, e.trans hq⟩
theorem allL_mem {rs : List (Term × Term)} {xs : List Term} {i : Int} {p : List Int} {s : Int × List Int} (h : s ∈ allI rs (walkL xs i p)) : ∃ k : Nat, ∃ q, s.2 = p ++ (i + (k : Int)) :: q := by
  obtain ⟨x, hx, e, _⟩ := allI_mem h
  obtain ⟨k, q, hq⟩ := walkL_mem hx
  exact ⟨k, q, e.trans hq⟩
theorem allT_eq (rs : List (Term × Term)) (t : Term) (p : List Int) : allI rs (walkT t p) = atV rs p t ++ allI rs (walkL t.args 0 p) := by
  rw [walkT]; simp [allI]
theorem allL_cons (rs : List (Term × Term)) (t : Term) (r : List Term) (i : Int) (p : List Int) : allI rs (walkL (t :: r) i p) = allI rs (walkT t (p ++ [i])) ++ allI rs (walkL r (i + 1) p) := by
  rw [walkL_cons, allI_app]
theorem apart1 {p q q' : List Int} {i : Int} {k : Nat} : ¬ ∃ a r, p ++ (i + 1 + (k : Int)) :: q' = (p ++ [i] ++ q) ++ a :: r := by
  rintro ⟨a, r, h⟩
  rw [List.append_assoc, List.append_assoc, List.append_cancel_left_eq] at h
  simp at h
  omega
theorem apart2 {p q q' : List Int} {i : Int} {k : Nat} : ¬ ∃ a r, p ++ [i] ++ q = (p ++ (i + 1 + (k : Int)) :: q') ++ a :: r := by
  rintro ⟨a, r, h⟩
  rw [List.append_assoc, List.append_assoc, List.append_cancel_left_eq] at h
  simp at h
  omega
def innF (l : List (Int × List Int)) (s : Int × List Int) : Bool := l.all fun s' => !belowP s'.2 s.2
def outF (l : List (Int × List Int)) (s : Int × List Int) : Bool := l.all fun s' => !belowP s.2 s'.2
theorem innF_app (a b : List (Int × List Int)) (s : Int × List Int) : innF (a ++ b) s = (innF a s && innF b s) := by unfold innF; rw [List.all_append]
theorem outF_app (a b : List (Int × List Int)) (s : Int × List Int) : outF (a ++ b) s = (outF a s && outF b s) := by unfold outF; rw [List.all_append]
theorem innF_true {l : List (Int × List Int)} {s : Int × List Int} (h : ∀ s', s' ∈ l → ¬ ∃ a r, s'.2 = s.2 ++ a :: r) : innF l s = true := by
  unfold innF
  rw [List.all_eq_true]
  intro s' hs'
  have := h s' hs'
  rw [← below_iff] at this
  simpa using this
theorem outF_true {l : List (Int × List Int)} {s : Int × List Int} (h : ∀ s', s' ∈ l → ¬ ∃ a r, s.2 = s'.2 ++ a :: r) : outF l s = true := by
  unfold outF
  rw [List.all_eq_true]
  intro s' hs'
  have := h s' hs'
  rw [← below_iff] at this
  simpa using this
theorem filter_split {α : Type} (p q r : α → Bool) (a b : List α) (h1 : ∀ x, x ∈ a → p x = q x) (h2 : ∀ x, x ∈ b → p x = r x) : (a ++ b).filter p = a.filter q ++ b.filter r := by
  rw [List.filter_append, List.filter_congr h1, List.filter_congr h2]
theorem filter_none {α : Type} {p : α → Bool} {a : List α} (h : ∀ x, x ∈ a → p x = false) : a.filter p = [] := List.filter_eq_nil_iff.2 fun x hx => by simp [h x hx]
theorem filter_each {α : Type} {p : α → Bool} {a : List α} (h : ∀ x, x ∈ a → p x = true) : a.filter p = a := List.filter_eq_self.2 h
theorem self_apart {q : List Int} : ¬ ∃ a r, q = q ++ a :: r := by
  rintro ⟨a, r, h⟩
  have := congrArg List.length h
  simp at this
theorem long_apart {q : List Int} {k : Nat} {i : Int} {u : List Int} : ¬ ∃ a r, q = (q ++ (i + (k : Int)) :: u) ++ a :: r := by
  rintro ⟨a, r, h⟩
  have := congrArg List.length h
  simp at this
theorem innT_y {rs : List (Term × Term)} {n : List UInt8} {v : Bool} {xs : List Term} {p : List Int} (h : innL rs xs 0 p = []) : innT rs (.mk n v xs) p = atV rs p (.mk n v xs) := if_pos h
theorem innT_n {rs : List (Term × Term)} {n : List UInt8} {v : Bool} {xs : List Term} {p : List Int} (h : ¬ innL rs xs 0 p = []) : innT rs (.mk n v xs) p = innL rs xs 0 p := if_neg h
theorem outT_y {rs : List (Term × Term)} {n : List UInt8} {v : Bool} {xs : List Term} {p : List Int} (h : atV rs p (.mk n v xs) = []) : outT rs (.mk n v xs) p = outL rs xs 0 p := if_pos h
theorem outT_n {rs : List (Term × Term)} {n : List UInt8} {v : Bool} {xs : List Term} {p : List Int} (h : ¬ atV rs p (.mk n v xs) = []) : outT rs (.mk n v xs) p = atV rs p (.mk n v xs) := if_neg h
theorem innL_nilI (rs : List (Term × Term)) : ∀ (xs : List Term) (i : Int) (p : List Int), innL rs xs i p = [] ↔ allI rs (walkL xs i p) = []
  | [], i, p => by simp [innL_nil, walkL, allI]
  | .mk n v xs :: r, i, p => by
    have h1 := innL_nilI rs xs 0 (p ++ [i])
    have h2 := innL_nilI rs r (i + 1) p
    rw [innL_cons, allL_cons, List.append_eq_nil_iff, List.append_eq_nil_iff, h2, allT_eq, List.append_eq_nil_iff]
    simp only [Term.mk_args]
    by_cases hD : innL rs xs 0 (p ++ [i]) = []
    · rw [innT_y hD]; simp [h1.1 hD]
    · rw [innT_n hD]
      have : ¬ allI rs (walkL xs 0 (p ++ [i])) = [] := fun e => hD (h1.2 e)
      simp [hD, this]
theorem innT_of {rs : List (Term × Term)} {n : List UInt8} {v : Bool} {xs : List Term} {q0 : List Int} (h1 : innL rs xs 0 q0 = (allI rs (walkL xs 0 q0)).filter (innF (allI rs (walkL xs 0 q0)))) : innT rs (.mk n v xs) q0 = (allI rs (walkT (.mk n v xs) q0)).filter (innF (allI rs (walkT (.mk n v xs) q0))) := by
  have h3 := innL_nilI rs xs 0 q0
  rw [allT_eq]
  simp only [Term.mk_args]
  obtain ⟨D, hD⟩ : ∃ D, D = allI rs (walkL xs 0 q0) := ⟨_, rfl⟩
  have hmem : ∀ s, s ∈ D → ∃ k : Nat, ∃ q, s.2 = q0 ++ ((0 : Int) + (k : Int)) :: q := fun s hs => allL_mem (by rw [hD] at hs; exact hs)
  rw [← hD] at h1 h3 ⊢
  rw [filter_split _ (fun _ => decide (D = [])) (innF D) _ _ (fun s hs => ?_) (fun s hs => ?_)]
  · by_cases hn : D = []
    · rw [innT_y (h3.2 hn), hn, filter_each (fun _ _ => by simp)]; simp
    · rw [innT_n (fun e => hn (h3.1 e)), h1]
      simp [hn]
  · rw [innF_app]
    have e1 : innF (atV rs q0 (.mk n v xs)) s = true := innF_true fun s' hs' => by
      rw [atV_pos hs', atV_pos hs]; exact self_apart
    rw [e1, Bool.true_and]
    cases hq : D with
    | nil => simp [innF]
    | cons d l =>
      obtain ⟨k, q, hk⟩ := hmem d (by rw [hq]; simp)
      have : belowP d.2 s.2 = true := (below_iff _ _).2 ⟨_, q, by rw [hk, atV_pos hs]⟩
      simp [innF, this]
  · rw [innF_app]
    have e1 : innF (atV rs q0 (.mk n v xs)) s = true := innF_true fun s' hs' => by
      obtain ⟨k, q, hk⟩ := hmem s hs
      rw [atV_pos hs', hk]; exact long_apart
    rw [e1, Bool.true_and]
theorem innL_eq (rs : List (Term × Term)) : ∀ (xs : List Term) (i : Int) (p : List Int), innL rs xs i p = (allI rs (walkL xs i p)).filter (innF (allI rs (walkL xs i p)))
  | [], i, p => by simp [innL_nil, walkL, allI]
  | .mk n v xs :: r, i, p => by
    have h1 := innL_eq rs xs 0 (p ++ [i])
    have h2 := innL_eq rs r (i + 1) p
    have h3 := innL_nilI rs xs 0 (p ++ [i])
    rw [innL_cons, allL_cons, h2]
    rw [filter_split _ (innF (allI rs (walkT (.mk n v xs) (p ++ [i])))) (innF (allI rs (walkL r (i + 1) p))) _ _ (fun s hs => ?_) (fun s hs => ?_)]
    · congr 1
      exact innT_of h1
    · rw [innF_app]
      have e1 : innF (allI rs (walkL r (i + 1) p)) s = true := innF_true fun s' hs' => by
        obtain ⟨q, hq⟩ := allT_mem hs
        obtain ⟨k, q', hq'⟩ := allL_mem hs'
        rw [hq, hq']; exact apart1
      rw [e1, Bool.and_true]
    · rw [innF_app]
      have e1 : innF (allI rs (walkT (.mk n v xs) (p ++ [i]))) s = true := innF_true fun s' hs' => by
        obtain ⟨q, hq⟩ := allT_mem hs'
        obtain ⟨k, q', hq'⟩ := allL_mem hs
        rw [hq, hq']; exact apart2
      rw [e1, Bool.true_and]
theorem outT_of {rs : List (Term × Term)} {n : List UInt8} {v : Bool} {xs : List Term} {q0 : List Int} (h1 : outL rs xs 0 q0 = (allI rs (walkL xs 0 q0)).filter (outF (allI rs (walkL xs 0 q0)))) : outT rs (.mk n v xs) q0 = (allI rs (walkT (.mk n v xs) q0)).filter (outF (allI rs (walkT (.mk n v xs) q0))) := by
  rw [allT_eq]
  simp only [Term.mk_args]
  obtain ⟨D, hD⟩ : ∃ D, D = allI rs (walkL xs 0 q0) := ⟨_, rfl⟩
  have hmem : ∀ s, s ∈ D → ∃ k : Nat, ∃ q, s.2 = q0 ++ ((0 : Int) + (k : Int)) :: q := fun s hs => allL_mem (by rw [hD] at hs; exact hs)
  rw [← hD] at h1 ⊢
  rw [filter_split _ (fun _ => true) (fun s => decide (atV rs q0 (.mk n v xs) = []) && outF D s) _ _ (fun s hs => ?_) (fun s hs => ?_)]
  · by_cases hn : atV rs q0 (.mk n v xs) = []
    · rw [outT_y hn, h1, hn]; simp
    · rw [outT_n hn, filter_each (fun _ _ => rfl), filter_none (fun s _ => by rw [decide_eq_false hn]; rfl), List.append_nil]
  · refine outF_true fun s' hs' => ?_
    rw [atV_pos hs]
    rw [List.mem_append] at hs'
    rcases hs' with hs' | hs'
    · rw [atV_pos hs']; exact self_apart
    · obtain ⟨k, q, hk⟩ := hmem s' hs'
      rw [hk]; exact long_apart
  · rw [outF_app]
    congr 1
    obtain ⟨k, q, hk⟩ := hmem s hs
    cases hq : atV rs q0 (.mk n v xs) with
    | nil => simp [outF]
    | cons d l =>
      have hd : d.2 = q0 := atV_pos (by rw [hq]; simp)
      have : belowP s.2 d.2 = true := (below_iff _ _).2 ⟨_, q, by rw [hk, hd]⟩
      simp [outF, this]
theorem outL_eq (rs : List (Term × Term)) : ∀ (xs : List Term) (i : Int) (p : List Int), outL rs xs i p = (allI rs (walkL xs i p)).filter (outF (allI rs (walkL xs i p)))
  | [], i, p => by simp [outL_nil', walkL, allI]
  | .mk n v xs :: r, i, p => by
    have h1 := outL_eq rs xs 0 (p ++ [i])
    have h2 := outL_eq rs r (i + 1) p
    rw [outL_cons, allL_cons, h2]
    rw [filter_split _ (outF (allI rs (walkT (.mk n v xs) (p ++ [i])))) (outF (allI rs (walkL r (i + 1) p))) _ _ (fun s hs => ?_) (fun s hs => ?_)]
    · congr 1
      exact outT_of h1
    · rw [outF_app]
      have e1 : outF (allI rs (walkL r (i + 1) p)) s = true := outF_true fun s' hs' => by
        obtain ⟨q, hq⟩ := allT_mem hs
        obtain ⟨k, q', hq'⟩ := allL_mem hs'
        rw [hq, hq']; exact apart2
      rw [e1, Bool.and_true]
    · rw [outF_app]
      have e1 : outF (allI rs (walkT (.mk n v xs) (p ++ [i]))) s = true := outF_true fun s' hs' => by
        obtain ⟨q, hq⟩ := allT_mem hs'
        obtain ⟨k, q', hq'⟩ := allL_mem hs
        rw [hq, hq']; exact apart1
      rw [e1, Bool.true_and]
theorem inn_top (rs : List (Term × Term)) (t : Term) : innT rs t [] = (allS rs t).filter (innF (allS rs t)) := by
  cases t with
  | mk n v xs => exact innT_of (innL_eq rs xs 0 [])
theorem out_top (rs : List (Term × Term)) (t : Term) : outT rs t [] = (allS rs t).filter (outF (allS rs t)) := by
  cases t with
  | mk n v xs => exact outT_of (outL_eq rs xs 0 [])
theorem takeW_cut {α : Type} (p : α → Bool) : ∀ (l : List α) (n : Nat), n ≤ l.length → (∀ j (h : j < l.length), j < n → p l[j] = true) → (∀ h : n < l.length, p l[n] = false) → l.takeWhile p = l.take n
  | [], n, h, _, _ => by simp
  | a :: r, 0, _, _, h2 => by
    have := h2 (by simp)
    simp only [List.getElem_cons_zero] at this
    simp [List.takeWhile_cons, this]
  | a :: r, n + 1, h, h1, h2 => by
    have h0 := h1 0 (by simp) (by omega)
    simp only [List.getElem_cons_zero] at h0
    rw [List.takeWhile_cons, if_pos h0, List.take_succ_cons]
    congr 1
    exact takeW_cut p r n (by simpa using h) (fun j hj hn => by have := h1 (j + 1) (by simp; omega) (by omega); simpa using this) (fun hn => by have := h2 (by simp; omega); simpa using this)
theorem firstS_cut (l : List (Int × List Int)) (i : Nat) (hi : i ≤ l.length) (h0 : 0 < l.length → 0 < i) (h1 : ∀ j (h : j < l.length), j < i → l[j].2 = (l[0]'(by omega)).2) (h2 : ∀ h : i < l.length, l[i].2 ≠ (l[0]'(by omega)).2) : firstS l = l.take i := by
  cases l with
  | nil => simp [firstS]
  | cons a r =>
    have := h0 (by simp)
    obtain ⟨n, rfl⟩ : ∃ n, i = n + 1 := ⟨i - 1, by omega⟩
    rw [List.take_succ_cons]
    show a :: r.takeWhile _ = _
    congr 1
    refine takeW_cut _ r n (by simpa using hi) (fun j hj hn => ?_) (fun hn => ?_)
    · have := h1 (j + 1) (by simp; omega) (by omega)
      simpa using this
    · have := h2 (by simp; omega)
      simpa using this
def keepP (l : List (Int × List Int)) (s : Int) (x : Int × List Int) : Bool := if s = 2 ∨ s = 4 then innF l x else if s = 3 ∨ s = 5 then outF l x else true
def redR (l : List (Int × List Int)) (s : Int) : List (Int × List Int) := if s = 4 ∨ s = 5 then firstS (l.filter (keepP l s)) else l.filter (keepP l s)
theorem under_eq (rs : List (Term × Term)) (t : Term) (s : Int) : underP rs t s = redR (allS rs t) s := by
  unfold underP redR
  by_cases h2 : s = 2
  · subst h2
    rw [if_pos rfl, if_neg (by omega), inn_top]
    exact List.filter_congr fun x _ => by simp [keepP]
  · by_cases h4 : s = 4
    · subst h4
      rw [if_neg (by omega), if_pos rfl, if_pos (by omega), inn_top]
      congr 1
    · by_cases h3 : s = 3
      · subst h3
        rw [if_neg (by omega), if_neg (by omega), if_pos rfl, if_neg (by omega), out_top]
        exact List.filter_congr fun x _ => by simp [keepP]
      · by_cases h5 : s = 5
        · subst h5
          rw [if_neg (by omega), if_neg (by omega), if_neg (by omega), if_pos rfl, if_pos (by omega), out_top]
          congr 1
        · rw [if_neg h2, if_neg h4, if_neg h3, if_neg h5, if_neg (by omega)]
          exact (filter_each fun x _ => by simp [keepP, h2, h3, h4, h5]).symm
end Ab
set_option maxRecDepth 10000
namespace Ab
open Go Go.Proofs
theorem equalI_ac (p q : List Int) (h1 : p.length < 1099511627776) (h2 : q.length < 1099511627776) (H : List AObj) : ACall Tryz.prog 77 [.sl .none (encP p), .sl .none (encP q)] H (fun r H' => r = .bool (decide (p = q)) ∧ H' = H) := by
  refine ACall_V (H.length) 24 [.tmp 4] Tryz.func77 rfl rfl rfl ?_
  simp only [push_cast, Nat.reduceAdd, Nat.reduceSub, Nat.reduceMul, Nat.reduceLT, Nat.reduceLeDiff, Nat.reduceEqDiff, Int.reduceToNat, ↓reduceIte, encP_length]
  refine cI (fun hl => ?_) (fun hl => ?_)
  · have hl : p.length = q.length := by omega
    refine AW_loopW (maskG 26 [0, 0, 10, 0]) (fun (i : Nat) => [(13, .int .i64 i)]) (fun _ => H) (fun i => i ≤ p.length ∧ p.take i = q.take i) (fun i => p.length - i) 0 ⟨Nat.zero_le _, rfl⟩ (by simp only [push_cast, Nat.reduceAdd, Nat.reduceSub, Nat.reduceMul, Nat.reduceLT, Nat.reduceLeDiff, Nat.reduceEqDiff, Int.reduceToNat, ↓reduceIte]) (fun i hi => ?_)
    simp only [push_cast, Nat.reduceAdd, Nat.reduceSub, Nat.reduceMul, Nat.reduceLT, Nat.reduceLeDiff, Nat.reduceEqDiff, Int.reduceToNat, ↓reduceIte]
    refine cI (fun h => ?_) (fun h => ?_)
    · repeat refine ⟨by omega, ?_⟩
      have hip : i < p.length := by omega
      have hiq : i < q.length := by omega
      apply AW_drawE [some 16, some 17, some 18, some 19, some 20, some 21, some 22, some 23, some 24] [([], _)] [none, none, none, none, none, none, none, none, none] 0 [(0, [], [0]), (1, [], [5]), (2, [], [16, 0]), (3, [], [18]), (4, [], [1]), (5, [], [5]), (6, [], [20, 0]), (7, [], [22]), (8, [], [19, 3])] [_, _, _, _, _, _, _, _, _]
      case' hm => exact dr
      case' hn => rfl
      case' hok => rfl
      case' hlen => rfl
      case' hd => rfl
      case' h0 => rfl
      case' hstep =>
       simp only [DAllG, push_cast, Option.isSome_some, Option.isSome_none]
       repeat' apply And.intro
       all_goals (apply DOne_V; simp only [push_cast, Nat.reduceAdd, Nat.reduceSub, Nat.reduceMul, Nat.reduceLT, Nat.reduceLeDiff, Nat.reduceEqDiff, Int.reduceToNat, ↓reduceIte, encP_length] <;> first | exact rfl | omega | exact ⟨rfl, rfl⟩ | exact trivial | exact ⟨by omega, rfl⟩ | exact ⟨by omega, by omega, rfl⟩ | exact ⟨by omega, rfl, rfl⟩ | exact ⟨by omega, by omega, rfl, rfl⟩ | exact ⟨by rw [encP_length]; omega, trivial⟩)
      case' hQ => skip
      simp only [push_cast, Nat.reduceAdd, Nat.reduceSub, Nat.reduceMul, Nat.reduceLT, Nat.reduceLeDiff, Nat.reduceEqDiff, Int.reduceToNat, ↓reduceIte]
      refine cI (fun hq => ?_) (fun hq => ?_)
      · repeat' first | refine ⟨by omega, ?_⟩ | refine cI (fun _ => ?_) (fun _ => ?_)
        refine loopW_n (i + 1) ⟨by omega, ?_⟩ (by omega) (by simp only [push_cast, Nat.reduceAdd, Nat.reduceSub, Nat.reduceMul, Nat.reduceLT, Nat.reduceLeDiff, Nat.reduceEqDiff, Int.reduceToNat, ↓reduceIte])
        rw [List.take_succ_eq_append_getElem hip, List.take_succ_eq_append_getElem hiq, hi.2]
        congr 2
      · have hne : p ≠ q := fun e => by subst e; exact hq rfl
        simp [hne]
    · have e := hi.2
      rw [List.take_of_length_le (by omega), List.take_of_length_le (by omega)] at e
      simp [e]
  · have hne : p ≠ q := fun e => hl (by rw [e])
    simp [hne]
theorem strategic_ac (s : Int) (H : List AObj) : ACall Tryz.prog 39 [.int .i64 s] H (fun r H' => r = .bool (decide (1 ≤ s ∧ s ≤ 5)) ∧ H' = H) := by
  refine ACall_V (H.length) 8 [.tmp 2] Tryz.func39 rfl rfl rfl ?_
  simp only [push_cast, Nat.reduceAdd, Nat.reduceSub, Nat.reduceMul, Nat.reduceLT, Nat.reduceLeDiff, Nat.reduceEqDiff, Int.reduceToNat, ↓reduceIte]
  refine cI (fun h => ?_) (fun h => ?_)
  · simp [h]
  · simp [h]
def bothP (rs : List (Term × Term)) (t : Term) : Int := if sysP rs ≠ 0 then sysP rs else checkP t
theorem both_ac (rs : List (Term × Term)) (hlen : rs.length < 1099511627776) (hb : BndR rs) (t : Term) (ht : t.bulk ≤ 1099511627775) (H : List AObj) : ACall Tryz.prog 38 [.sl .none (encL encRu rs), encT t] H (fun r H' => r = .int .i64 (bothP rs t) ∧ H' = H) := by
  refine ACall_V (H.length) 11 [.tmp 4] Tryz.func38 rfl rfl rfl ?_
  simp only [push_cast, Nat.reduceAdd, Nat.reduceSub, Nat.reduceMul, Nat.reduceLT, Nat.reduceLeDiff, Nat.reduceEqDiff, Int.reduceToNat, ↓reduceIte]
  refine (checkSystem_ac rs hlen hb _).to ?_
  simp only [push_cast, Nat.reduceAdd, Nat.reduceSub, Nat.reduceMul, Nat.reduceLT, Nat.reduceLeDiff, Nat.reduceEqDiff, Int.reduceToNat, ↓reduceIte]
  refine cI (fun h => ?_) (fun h => ?_)
  · refine (check_ac t ht _).to ?_
    simp only [push_cast, Nat.reduceAdd, Nat.reduceSub, Nat.reduceMul, Nat.reduceLT, Nat.reduceLeDiff, Nat.reduceEqDiff, Int.reduceToNat, ↓reduceIte, bothP, h]
    simp
  · simp only [push_cast, Nat.reduceAdd, Nat.reduceSub, Nat.reduceMul, Nat.reduceLT, Nat.reduceLeDiff, Nat.reduceEqDiff, Int.reduceToNat, ↓reduceIte, bothP, h]
    simp [h]
theorem step_len {rs : List (Term × Term)} {t : Term} {s : Int × List Int} (h : s ∈ allS rs t) : s.2.length < t.size := by
  obtain ⟨x, hx, e, _⟩ := allI_mem h
  have := walk_pos_len t [] x hx
  rw [e]; simpa using this
theorem under_ac (rs : List (Term × Term)) (hr : SysB rs) (t : Term) (hb : t.bulk ≤ 1000000000) (s : Int) (H : List AObj) : ACall Tryz.prog 41 [.sl .none (encL encRu rs), encT t, .int .i64 s] H (fun r H' => r = .sl .none (encL encSt (underP rs t s)) ∧ H' = H) := by
  have hsz := t.size_le
  have hd := t.depth_le
  have hr1 := hr.1
  have hil := inn_len rs t []
  have hol := out_len rs t []
  have hmul : t.size * rs.length ≤ 1000000000 * 64 := Nat.mul_le_mul (by omega) hr1
  have hip : ∀ x, x ∈ innT rs t [] → x.2.length < 1099511627776 := fun x hx => by
    rw [inn_top] at hx
    have := step_len (List.mem_filter.1 hx).1
    omega
  have hop : ∀ x, x ∈ outT rs t [] → x.2.length < 1099511627776 := fun x hx => by
    rw [out_top] at hx
    have := step_len (List.mem_filter.1 hx).1
    omega
  have hi := fun H => inner_ac rs hr t hb [] (by simp; omega) H
  have ho := fun H => outer_ac rs hr t hb [] (by simp; omega) H
  by_cases h2 : s = 2
  · subst h2
    have hu : underP rs t 2 = innT rs t [] := by simp [underP]
    rw [hu]
    have k3 : ((2 : Int) = 3) = False := by decide
    have k4 : ((2 : Int) = 4) = False := by decide
    have k5 : ((2 : Int) = 5) = False := by decide
    refine ACall_V (H.length) 50 [.tmp 6] Tryz.func41 rfl rfl rfl ?_
    simp only [push_cast, Nat.reduceAdd, Nat.reduceSub, Nat.reduceMul, Nat.reduceLT, Nat.reduceLeDiff, Nat.reduceEqDiff, Int.reduceToNat, ↓reduceIte, k3, k4, k5]
    refine ACall.forget (args' := [.sl .none (encL encRu rs), encT t, .sl .none (encP [])]) ⟨Forget.refl _, Forget.refl _, Forget.tok _ _, trivial⟩ ((hi _).to ?_)
    simp only [push_cast, Nat.reduceAdd, Nat.reduceSub, Nat.reduceMul, Nat.reduceLT, Nat.reduceLeDiff, Nat.reduceEqDiff, Int.reduceToNat, ↓reduceIte, k3, k4, k5]
  by_cases h3 : s = 3
  · subst h3
    have hu : underP rs t 3 = outT rs t [] := by simp [underP]
    rw [hu]
    have k2 : ((3 : Int) = 2) = False := by decide
    have k4 : ((3 : Int) = 4) = False := by decide
    have k5 : ((3 : Int) = 5) = False := by decide
    refine ACall_V (H.length) 50 [.tmp 6] Tryz.func41 rfl rfl rfl ?_
    simp only [push_cast, Nat.reduceAdd, Nat.reduceSub, Nat.reduceMul, Nat.reduceLT, Nat.reduceLeDiff, Nat.reduceEqDiff, Int.reduceToNat, ↓reduceIte, k2, k4, k5]
    refine ACall.forget (args' := [.sl .none (encL encRu rs), encT t, .sl .none (encP [])]) ⟨Forget.refl _, Forget.refl _, Forget.tok _ _, trivial⟩ ((ho _).to ?_)
    simp only [push_cast, Nat.reduceAdd, Nat.reduceSub, Nat.reduceMul, Nat.reduceLT, Nat.reduceLeDiff, Nat.reduceEqDiff, Int.reduceToNat, ↓reduceIte, k2, k4, k5]
  by_cases h4 : s = 4
  · subst h4
    have k2 : ((4 : Int) = 2) = False := by decide
    have k3 : ((4 : Int) = 3) = False := by decide
    have k5 : ((4 : Int) = 5) = False := by decide
    refine ACall_V (H.length) 50 [.tmp 6] Tryz.func41 rfl rfl rfl ?_
    simp only [push_cast, Nat.reduceAdd, Nat.reduceSub, Nat.reduceMul, Nat.reduceLT, Nat.reduceLeDiff, Nat.reduceEqDiff, Int.reduceToNat, ↓reduceIte, k2, k3, k5]
    refine ACall.forget (args' := [.sl .none (encL encRu rs), encT t, .sl .none (encP [])]) ⟨Forget.refl _, Forget.refl _, Forget.tok _ _, trivial⟩ ((hi _).to ?_)
    simp only [push_cast, Nat.reduceAdd, Nat.reduceSub, Nat.reduceMul, Nat.reduceLT, Nat.reduceLeDiff, Nat.reduceEqDiff, Int.reduceToNat, ↓reduceIte, k2, k3, k5]
    obtain ⟨L, hL⟩ : ∃ L, L = innT rs t [] := ⟨_, rfl⟩
    rw [← hL] at hil hip ⊢
    have hu : underP rs t 4 = firstS L := by rw [hL]; simp [underP]
    rw [hu]
    refine AW_loopW (maskG 53 [7, 0]) (fun (i : Nat) => [(8, .int .i64 i)]) (fun i => H ++ [.cells [.str t.name, .bool t.var, .sl .none (encTs t.args)]]) (fun i => i ≤ L.length ∧ ∀ j (h : j < L.length), j < i → L[j].2 = (L[0]'(by omega)).2) (fun i => L.length - i) 0 ⟨Nat.zero_le _, fun j _ h => by omega⟩ (by simp only [push_cast, Nat.reduceAdd, Nat.reduceSub, Nat.reduceMul, Nat.reduceLT, Nat.reduceLeDiff, Nat.reduceEqDiff, Int.reduceToNat, ↓reduceIte]) (fun i hi => ?_)
    simp only [push_cast, Nat.reduceAdd, Nat.reduceSub, Nat.reduceMul, Nat.reduceLT, Nat.reduceLeDiff, Nat.reduceEqDiff, Int.reduceToNat, ↓reduceIte]
    by_cases hil : i < L.length
    · have hd : decide ((i : Int) < (L.length : Int)) = true := by rw [decide_eq_true_eq]; omega
      have h0 : 0 < L.length := by omega
      apply AW_drawE [some 31, some 32, some 33, some 34, some 35, some 36, some 37, some 38, some 39, some 40, some 41, some 42, some 43, some 44, some 45, some 46] [([], _)] [none, none, none, none, none, none, none, none, none, none, none, none, none, none, none, none] 0 [(0, [], [8]), (1, [], [7]), (2, [], [32]), (3, [], [31, 1]), (4, [], [34]), (5, [], [7, 27]), (6, [], [8, 26]), (7, [], [35, 0, 0]), (8, [], [35, 2]), (9, [], [35, 3]), (10, [], [7, 27]), (11, [], [35, 5]), (12, [], [35, 6]), (13, [], [35, 7]), (14, [], [35, 4, 3]), (15, [], [35, 9])] [_, _, _, _, _, _, _, _, _, _, _, _, _, _, _, _]
      case' hm => exact dr
      case' hn => rfl
      case' hok => rfl
      case' hlen => rfl
      case' hd => rfl
      case' h0 => rfl
      case' hstep =>
       simp only [DAllG, push_cast, Option.isSome_some, Option.isSome_none]
       repeat' apply And.intro
       all_goals (apply DOne_V; simp only [push_cast, Nat.reduceAdd, Nat.reduceSub, Nat.reduceMul, Nat.reduceLT, Nat.reduceLeDiff, Nat.reduceEqDiff, Int.reduceToNat, ↓reduceIte, hd] <;> first | exact rfl | omega | exact ⟨rfl, rfl⟩ | exact trivial | exact ⟨by omega, rfl⟩ | exact ⟨by omega, by omega, rfl⟩ | exact ⟨by omega, rfl, rfl⟩ | exact ⟨by omega, by omega, rfl, rfl⟩ | exact ⟨by omega, trivial⟩ | exact ⟨by omega, rfl⟩ | exact (equalI_ac (L[i]'hil).2 (L[0]'h0).2 (hip _ (List.getElem_mem hil)) (hip _ (List.getElem_mem h0)) _).to ⟨rfl, rfl⟩)
      case' hQ => skip
      simp only [push_cast, Nat.reduceAdd, Nat.reduceSub, Nat.reduceMul, Nat.reduceLT, Nat.reduceLeDiff, Nat.reduceEqDiff, Int.reduceToNat, ↓reduceIte, hd]
      refine cI (fun hq => ?_) (fun hq => ?_)
      · repeat' first | refine ⟨by omega, ?_⟩ | refine cI (fun _ => ?_) (fun _ => ?_)
        refine loopW_n (i + 1) ⟨by omega, fun j hj hji => ?_⟩ (by omega) (by simp only [push_cast, Nat.reduceAdd, Nat.reduceSub, Nat.reduceMul, Nat.reduceLT, Nat.reduceLeDiff, Nat.reduceEqDiff, Int.reduceToNat, ↓reduceIte])
        rcases Nat.lt_or_eq_of_le (Nat.le_of_lt_succ hji) with h | h
        · exact hi.2 j hj h
        · subst h; exact hq
      · have hcut := firstS_cut L i hi.1 (fun _ => by rcases Nat.eq_zero_or_pos i with h | h; (subst h; exact absurd rfl hq); exact h) hi.2 (fun h e => hq e)
        rw [hcut]
        exact ⟨by omega, hi.1, rfl⟩
    · have hd : decide ((i : Int) < (L.length : Int)) = false := by rw [decide_eq_false_iff_not]; omega
      apply AW_drawE [some 31, some 32, some 33, some 34, some 35, some 36, some 37, some 38, some 39, some 40, some 41, some 42, some 43, some 44, some 45, some 46] [([], _)] [none, none, none, none, none, none, none, none, none, none, none, none, none, none, none, none] 0 [(0, [], [8]), (1, [], [7]), (2, [], [32]), (3, [], [31, 1]), (4, [], [34]), (5, [], [7, 27]), (6, [], [8, 26]), (7, [], [35, 0, 0]), (8, [], [35, 2]), (9, [], [35, 3]), (10, [], [7, 27]), (11, [], [35, 5]), (12, [], [35, 6]), (13, [], [35, 7]), (14, [], [35, 4, 3]), (15, [], [35, 9])] [_, _, _, _, _, _, _, _, _, _, _, _, _, _, _, _]
      case' hm => exact dr
      case' hn => rfl
      case' hok => rfl
      case' hlen => rfl
      case' hd => rfl
      case' h0 => rfl
      case' hstep =>
       simp only [DAllG, push_cast, Option.isSome_some, Option.isSome_none]
       repeat' apply And.intro
       all_goals (apply DOne_V; simp only [push_cast, Nat.reduceAdd, Nat.reduceSub, Nat.reduceMul, Nat.reduceLT, Nat.reduceLeDiff, Nat.reduceEqDiff, Int.reduceToNat, ↓reduceIte, hd] <;> first | exact rfl | omega | exact ⟨rfl, rfl⟩ | exact trivial | exact ⟨by omega, rfl⟩ | exact ⟨by omega, by omega, rfl⟩ | exact ⟨by omega, rfl, rfl⟩ | exact ⟨by omega, by omega, rfl, rfl⟩ | skip)
      case' hQ => skip
      simp only [push_cast, Nat.reduceAdd, Nat.reduceSub, Nat.reduceMul, Nat.reduceLT, Nat.reduceLeDiff, Nat.reduceEqDiff, Int.reduceToNat, ↓reduceIte, hd]
      have hcut := firstS_cut L i hi.1 (fun h => by omega) hi.2 (fun h => absurd h hil)
      rw [hcut]
      exact ⟨by omega, hi.1, rfl⟩
  by_cases h5 : s = 5
  · subst h5
    have k2 : ((5 : Int) = 2) = False := by decide
    have k3 : ((5 : Int) = 3) = False := by decide
    have k4 : ((5 : Int) = 4) = False := by decide
    refine ACall_V (H.length) 50 [.tmp 6] Tryz.func41 rfl rfl rfl ?_
    simp only [push_cast, Nat.reduceAdd, Nat.reduceSub, Nat.reduceMul, Nat.reduceLT, Nat.reduceLeDiff, Nat.reduceEqDiff, Int.reduceToNat, ↓reduceIte, k2, k3, k4]
    refine ACall.forget (args' := [.sl .none (encL encRu rs), encT t, .sl .none (encP [])]) ⟨Forget.refl _, Forget.refl _, Forget.tok _ _, trivial⟩ ((ho _).to ?_)
    simp only [push_cast, Nat.reduceAdd, Nat.reduceSub, Nat.reduceMul, Nat.reduceLT, Nat.reduceLeDiff, Nat.reduceEqDiff, Int.reduceToNat, ↓reduceIte, k2, k3, k4]
    obtain ⟨L, hL⟩ : ∃ L, L = outT rs t [] := ⟨_, rfl⟩
    rw [← hL] at hol hop ⊢
    have hu : underP rs t 5 = firstS L := by rw [hL]; simp [underP]
    rw [hu]
    refine AW_loopW (maskG 53 [7, 0]) (fun (i : Nat) => [(8, .int .i64 i)]) (fun i => H ++ [.cells [.str t.name, .bool t.var, .sl .none (encTs t.args)]]) (fun i => i ≤ L.length ∧ ∀ j (h : j < L.length), j < i → L[j].2 = (L[0]'(by omega)).2) (fun i => L.length - i) 0 ⟨Nat.zero_le _, fun j _ h => by omega⟩ (by simp only [push_cast, Nat.reduceAdd, Nat.reduceSub, Nat.reduceMul, Nat.reduceLT, Nat.reduceLeDiff, Nat.reduceEqDiff, Int.reduceToNat, ↓reduceIte]) (fun i hi => ?_)
    simp only [push_cast, Nat.reduceAdd, Nat.reduceSub, Nat.reduceMul, Nat.reduceLT, Nat.reduceLeDiff, Nat.reduceEqDiff, Int.reduceToNat, ↓reduceIte]
    by_cases hil : i < L.length
    · have hd : decide ((i : Int) < (L.length : Int)) = true := by rw [decide_eq_true_eq]; omega
      have h0 : 0 < L.length := by omega
      apply AW_drawE [some 31, some 32, some 33, some 34, some 35, some 36, some 37, some 38, some 39, some 40, some 41, some 42, some 43, some 44, some 45, some 46] [([], _)] [none, none, none, none, none, none, none, none, none, none, none, none, none, none, none, none] 0 [(0, [], [8]), (1, [], [7]), (2, [], [32]), (3, [], [31, 1]), (4, [], [34]), (5, [], [7, 27]), (6, [], [8, 26]), (7, [], [35, 0, 0]), (8, [], [35, 2]), (9, [], [35, 3]), (10, [], [7, 27]), (11, [], [35, 5]), (12, [], [35, 6]), (13, [], [35, 7]), (14, [], [35, 4, 3]), (15, [], [35, 9])] [_, _, _, _, _, _, _, _, _, _, _, _, _, _, _, _]
      case' hm => exact dr
      case' hn => rfl
      case' hok => rfl
      case' hlen => rfl
      case' hd => rfl
      case' h0 => rfl
      case' hstep =>
       simp only [DAllG, push_cast, Option.isSome_some, Option.isSome_none]
       repeat' apply And.intro
       all_goals (apply DOne_V; simp only [push_cast, Nat.reduceAdd, Nat.reduceSub, Nat.reduceMul, Nat.reduceLT, Nat.reduceLeDiff, Nat.reduceEqDiff, Int.reduceToNat, ↓reduceIte, hd] <;> first | exact rfl | omega | exact ⟨rfl, rfl⟩ | exact trivial | exact ⟨by omega, rfl⟩ | exact ⟨by omega, by omega, rfl⟩ | exact ⟨by omega, rfl, rfl⟩ | exact ⟨by omega, by omega, rfl, rfl⟩ | exact ⟨by omega, trivial⟩ | exact ⟨by omega, rfl⟩ | exact (equalI_ac (L[i]'hil).2 (L[0]'h0).2 (hop _ (List.getElem_mem hil)) (hop _ (List.getElem_mem h0)) _).to ⟨rfl, rfl⟩)
      case' hQ => skip
      simp only [push_cast, Nat.reduceAdd, Nat.reduceSub, Nat.reduceMul, Nat.reduceLT, Nat.reduceLeDiff, Nat.reduceEqDiff, Int.reduceToNat, ↓reduceIte, hd]
      refine cI (fun hq => ?_) (fun hq => ?_)
      · repeat' first | refine ⟨by omega, ?_⟩ | refine cI (fun _ => ?_) (fun _ => ?_)
        refine loopW_n (i + 1) ⟨by omega, fun j hj hji => ?_⟩ (by omega) (by simp only [push_cast, Nat.reduceAdd, Nat.reduceSub, Nat.reduceMul, Nat.reduceLT, Nat.reduceLeDiff, Nat.reduceEqDiff, Int.reduceToNat, ↓reduceIte])
        rcases Nat.lt_or_eq_of_le (Nat.le_of_lt_succ hji) with h | h
        · exact hi.2 j hj h
        · subst h; exact hq
      · have hcut := firstS_cut L i hi.1 (fun _ => by rcases Nat.eq_zero_or_pos i with h | h; (subst h; exact absurd rfl hq); exact h) hi.2 (fun h e => hq e)
        rw [hcut]
        exact ⟨by omega, hi.1, rfl⟩
    · have hd : decide ((i : Int) < (L.length : Int)) = false := by rw [decide_eq_false_iff_not]; omega
      apply AW_drawE [some 31, some 32, some 33, some 34, some 35, some 36, some 37, some 38, some 39, some 40, some 41, some 42, some 43, some 44, some 45, some 46] [([], _)] [none, none, none, none, none, none, none, none, none, none, none, none, none, none, none, none] 0 [(0, [], [8]), (1, [], [7]), (2, [], [32]), (3, [], [31, 1]), (4, [], [34]), (5, [], [7, 27]), (6, [], [8, 26]), (7, [], [35, 0, 0]), (8, [], [35, 2]), (9, [], [35, 3]), (10, [], [7, 27]), (11, [], [35, 5]), (12, [], [35, 6]), (13, [], [35, 7]), (14, [], [35, 4, 3]), (15, [], [35, 9])] [_, _, _, _, _, _, _, _, _, _, _, _, _, _, _, _]
      case' hm => exact dr
      case' hn => rfl
      case' hok => rfl
      case' hlen => rfl
      case' hd => rfl
      case' h0 => rfl
      case' hstep =>
       simp only [DAllG, push_cast, Option.isSome_some, Option.isSome_none]
       repeat' apply And.intro
       all_goals (apply DOne_V; simp only [push_cast, Nat.reduceAdd, Nat.reduceSub, Nat.reduceMul, Nat.reduceLT, Nat.reduceLeDiff, Nat.reduceEqDiff, Int.reduceToNat, ↓reduceIte, hd] <;> first | exact rfl | omega | exact ⟨rfl, rfl⟩ | exact trivial | exact ⟨by omega, rfl⟩ | exact ⟨by omega, by omega, rfl⟩ | exact ⟨by omega, rfl, rfl⟩ | exact ⟨by omega, by omega, rfl, rfl⟩ | skip)
      case' hQ => skip
      simp only [push_cast, Nat.reduceAdd, Nat.reduceSub, Nat.reduceMul, Nat.reduceLT, Nat.reduceLeDiff, Nat.reduceEqDiff, Int.reduceToNat, ↓reduceIte, hd]
      have hcut := firstS_cut L i hi.1 (fun h => by omega) hi.2 (fun h => absurd h hil)
      rw [hcut]
      exact ⟨by omega, hi.1, rfl⟩
  have hu : underP rs t s = allS rs t := by simp [underP, h2, h3, h4, h5]
  rw [hu]
  have k2 := eq_false h2
  have k3 := eq_false h3
  have k4 := eq_false h4
  have k5 := eq_false h5
  refine ACall_V (H.length) 50 [.tmp 6] Tryz.func41 rfl rfl rfl ?_
  simp only [push_cast, Nat.reduceAdd, Nat.reduceSub, Nat.reduceMul, Nat.reduceLT, Nat.reduceLeDiff, Nat.reduceEqDiff, Int.reduceToNat, ↓reduceIte, k2, k3, k4, k5]
  refine (allSteps_ac rs hr t hb _).to ?_
  simp only [push_cast, Nat.reduceAdd, Nat.reduceSub, Nat.reduceMul, Nat.reduceLT, Nat.reduceLeDiff, Nat.reduceEqDiff, Int.reduceToNat, ↓reduceIte]
end Ab
set_option maxRecDepth 10000
namespace Ab
open Go Go.Proofs
theorem replace_ac (σ : List (List UInt8 × Term)) (hs : SortedN (σ.map (·.1))) (hlen : σ.length < 1099511627776) (hbk : ∀ b, b ∈ σ → b.2.bulk ≤ 1099511627775) (t : Term) : t.bulk ≤ 1099511627775 → ∀ H, ACall Tryz.prog 92 [.sl .none (encL encBd σ), encT t] H (fun r H' => r = encT (applyP σ t) ∧ H' = H) := by
  induction t using Term.ind with | _ n u xs ih
  intro hb H
  have hl := Term.len_le (n := n) (v := u) (xs := xs)
  cases u with
  | true =>
    rw [applyP_t, image_look]
    refine ACall_V (H.length) 43 [.cell 4 25] Tryz.func92 rfl rfl rfl ?_
    simp only [push_cast, Nat.reduceAdd, Nat.reduceSub, Nat.reduceMul, Nat.reduceLT, Nat.reduceLeDiff, Nat.reduceEqDiff, Int.reduceToNat, ↓reduceIte]
    refine (imageT_ac σ hs n hlen _).to ?_
    rcases look_cases (σ := σ) n with ⟨b, hbm, _, e⟩ | e
    · have hbb := hbk b hbm
      simp only [push_cast, Nat.reduceAdd, Nat.reduceSub, Nat.reduceMul, Nat.reduceLT, Nat.reduceLeDiff, Nat.reduceEqDiff, Int.reduceToNat, ↓reduceIte, e, Option.isSome_some, Option.getD_some]
      refine (own_ac b.2 (by omega) _).to ?_
      simp only [push_cast, Nat.reduceAdd, Nat.reduceSub, Nat.reduceMul, Nat.reduceLT, Nat.reduceLeDiff, Nat.reduceEqDiff, Int.reduceToNat, ↓reduceIte]
    · simp only [push_cast, Nat.reduceAdd, Nat.reduceSub, Nat.reduceMul, Nat.reduceLT, Nat.reduceLeDiff, Nat.reduceEqDiff, Int.reduceToNat, ↓reduceIte, e, Option.isSome_none, Option.getD_none]
  | false =>
    rw [applyP_f]
    refine ACall_V (H.length) 43 [.cell 4 25] Tryz.func92 rfl rfl rfl ?_
    simp only [push_cast, Nat.reduceAdd, Nat.reduceSub, Nat.reduceMul, Nat.reduceLT, Nat.reduceLeDiff, Nat.reduceEqDiff, Int.reduceToNat, ↓reduceIte]
    refine AW_reserve 1 ?_
    refine AW_loopW (maskG 45 [0, 3, 2, 21, 0, 0]) (fun (i : Nat) => [(31, .int .i64 i)]) (fun i => H ++ [.cells [.str n, .bool false, .sl .none (encTs xs)], .cells [.str [], .bool false, .sl .zero []], .cells [.str n, .bool false, gSl (H.length + 3) (encTs (appL σ (xs.take i)))], gTok 25 3 (encTs (appL σ (xs.take i)))]) (fun i => i ≤ xs.length) (fun i => xs.length - i) 0 (Nat.zero_le _) (by simp only [push_cast, Nat.reduceAdd, Nat.reduceSub, Nat.reduceMul, Nat.reduceLT, Nat.reduceLeDiff, Nat.reduceEqDiff, Int.reduceToNat, ↓reduceIte, List.take_zero, appL_nil]) (fun i hi => ?_)
    simp only [push_cast, Nat.reduceAdd, Nat.reduceSub, Nat.reduceMul, Nat.reduceLT, Nat.reduceLeDiff, Nat.reduceEqDiff, Int.reduceToNat, ↓reduceIte]
    refine cI (fun h => ?_) (fun h => ?_)
    · have hil : i < xs.length := by omega
      repeat refine ⟨by omega, ?_⟩
      have hal := appL_len σ (xs.take i)
      rw [List.length_take] at hal
      apply AW_drawE [some 35, some 36, some 37, some 38, some 39, some 40, some 41, some 42, none] [([false, false], _), ([true, false], _), ([true, true], _)] [none, none, none, none, none, none, some 0, none, some 1] 2 [(0, [false, false], [7]), (1, [false, false], [35]), (2, [false, false], [0]), (3, [false, false], [9]), (4, [false, false], [37, 0]), (5, [false, false], [39]), (6, [false, false], [36, 3]), (7, [true, false], [7]), (8, [true, false], [41, 0]), (0, [true, false], [7]), (2, [true, false], [0]), (3, [true, false], [9])] [_, _, _, _, _, _, _, _, _]
      case' hm => exact dr
      case' hn => rfl
      case' hok => rfl
      case' hlen => rfl
      case' hd => rfl
      case' h0 => rfl
      case' hstep =>
       simp only [DAllG, push_cast, Option.isSome_some, Option.isSome_none]
       repeat' apply And.intro
       all_goals (apply DOne_V; simp only [push_cast, Nat.reduceAdd, Nat.reduceSub, Nat.reduceMul, Nat.reduceLT, Nat.reduceLeDiff, Nat.reduceEqDiff, Int.reduceToNat, ↓reduceIte] <;> first | exact rfl | omega | exact ⟨rfl, rfl⟩ | exact trivial | exact ⟨by omega, rfl⟩ | exact ⟨by omega, by omega, rfl⟩ | exact ⟨by omega, rfl, rfl⟩ | exact ⟨by omega, by omega, rfl, rfl⟩ | exact (ih _ (List.getElem_mem hil) (arg_bulk hb i hil) _).to ⟨rfl, rfl⟩ | (refine app1_T _ (H.length + 3) (appL σ (xs.take i)) (applyP σ (xs[i]'hil)) _ rfl rfl (by exact (agetN _ _ 3).trans rfl) sl23 sz25 by25 zr25 rfl (by decide) (by omega) ?_; simp only [push_cast, Nat.reduceAdd, Nat.reduceSub, Nat.reduceMul, Nat.reduceLT, Nat.reduceLeDiff, Nat.reduceEqDiff, Int.reduceToNat, ↓reduceIte]; exact ⟨rfl, rfl⟩))
      case' hQ => skip
      simp only [push_cast, Nat.reduceAdd, Nat.reduceSub, Nat.reduceMul, Nat.reduceLT, Nat.reduceLeDiff, Nat.reduceEqDiff, Int.reduceToNat, ↓reduceIte, ← appL_take σ xs i hil]
      repeat' first | refine ⟨by omega, ?_⟩ | refine cI (fun _ => ?_) (fun _ => ?_)
      exact loopW_n (i + 1) (by omega) (by omega) (by simp only [push_cast, Nat.reduceAdd, Nat.reduceSub, Nat.reduceMul, Nat.reduceLT, Nat.reduceLeDiff, Nat.reduceEqDiff, Int.reduceToNat, ↓reduceIte])
    · simp only [push_cast, Nat.reduceAdd, Nat.reduceSub, Nat.reduceMul, Nat.reduceLT, Nat.reduceLeDiff, Nat.reduceEqDiff, Int.reduceToNat, ↓reduceIte, List.take_of_length_le (show xs.length ≤ i by omega)]
def instE (σ : List (List UInt8 × Term)) (t : Term) : Term × Int := if fitsP (applyP σ t) then (applyP σ t, 0) else (.mk [] false [], 3)
theorem instance_ac (σ : List (List UInt8 × Term)) (hs : SortedN (σ.map (·.1))) (hlen : σ.length < 1099511627776) (hbk : ∀ b, b ∈ σ → b.2.bulk ≤ 1099511627775) (t : Term) (hb : t.bulk ≤ 1099511627775) (hb2 : (applyP σ t).size ≤ 1099511627775) (H : List AObj) : ACall Tryz.prog 62 [.sl .none (encL encBd σ), encT t] H (fun r H' => r = encRE (instE σ t) ∧ H' = H) := by
  have hd := (applyP σ t).depth_le
  refine ACall_V (H.length) 20 [.cell 4 25, .tmp 5] Tryz.func62 rfl rfl rfl ?_
  simp only [push_cast, Nat.reduceAdd, Nat.reduceSub, Nat.reduceMul, Nat.reduceLT, Nat.reduceLeDiff, Nat.reduceEqDiff, Int.reduceToNat, ↓reduceIte]
  refine (measure_ac σ hs hlen hbk t hb hb2 _).to ?_
  simp only [push_cast, Nat.reduceAdd, Nat.reduceSub, Nat.reduceMul, Nat.reduceLT, Nat.reduceLeDiff, Nat.reduceEqDiff, Int.reduceToNat, ↓reduceIte]
  refine cI (fun h => ?_) (fun h => ?_)
  · have h1 : ¬ (applyP σ t).size ≤ 4000 := by omega
    have e : instE σ t = (.mk [] false [], 3) := by simp [instE, fitsP, h1]
    simp only [push_cast, Nat.reduceAdd, Nat.reduceSub, Nat.reduceMul, Nat.reduceLT, Nat.reduceLeDiff, Nat.reduceEqDiff, Int.reduceToNat, ↓reduceIte, e]
  · have h1 : (applyP σ t).size ≤ 4000 := by omega
    refine cI (fun h2 => ?_) (fun h2 => ?_)
    · have h3 : ¬ (applyP σ t).depth ≤ 200 := by omega
      have e : instE σ t = (.mk [] false [], 3) := by simp [instE, fitsP, h3]
      simp only [push_cast, Nat.reduceAdd, Nat.reduceSub, Nat.reduceMul, Nat.reduceLT, Nat.reduceLeDiff, Nat.reduceEqDiff, Int.reduceToNat, ↓reduceIte, e]
    · have h3 : (applyP σ t).depth ≤ 200 := by omega
      have e : instE σ t = (applyP σ t, 0) := by simp [instE, fitsP, h1, h3]
      refine (replace_ac σ hs hlen hbk t hb _).to ?_
      simp only [push_cast, Nat.reduceAdd, Nat.reduceSub, Nat.reduceMul, Nat.reduceLT, Nat.reduceLeDiff, Nat.reduceEqDiff, Int.reduceToNat, ↓reduceIte, e]
end Ab
set_option maxRecDepth 10000
namespace Ab
open Go Go.Proofs
def ruleN (rs : List (Term × Term)) (i : Int) : Term × Term := rs.getD i.toNat (zeroT, zeroT)
theorem ruleN_get {rs : List (Term × Term)} {i : Int} (h : i.toNat < rs.length) : ruleN rs i = rs[i.toNat] := by unfold ruleN; rw [List.getD_eq_getElem?_getD, List.getElem?_eq_getElem h]; rfl
def findE (rs : List (Term × Term)) (t : Term) (s : Int × List Int) : List (List UInt8 × Term) × Int :=
  if 0 ≤ s.1 ∧ s.1.toNat < rs.length then (match atP t s.2 with
    | some x => if (matchP (ruleN rs s.1).1 x []).2 then ((matchP (ruleN rs s.1).1 x []).1, 0) else ([], 9)
    | none => ([], 8)) else ([], 8)
def encFE (q : List (List UInt8 × Term) × Int) : AV := .tup [.sl .none (encL encBd q.1), .int .i64 q.2]
theorem stepFind_ac (rs : List (Term × Term)) (hr : SysB rs) (t : Term) (hb : t.bulk ≤ 1099511627775) (s : Int × List Int) (hs : s.2.length < 1099511627776) (H : List AObj) :
    ACall Tryz.prog 59 [.sl .none (encL encRu rs), encT t, encSt s] H (fun r H' => r = encFE (findE rs t s) ∧ H' = H) := by
  obtain ⟨hr1, hr2⟩ := hr
  refine ACall_V (H.length) 41 [.tmp 6, .tmp 7] Tryz.func59 rfl rfl rfl ?_
  simp only [push_cast, Nat.reduceAdd, Nat.reduceSub, Nat.reduceMul, Nat.reduceLT, Nat.reduceLeDiff, Nat.reduceEqDiff, Int.reduceToNat, ↓reduceIte]
  have bad : ¬ (0 ≤ s.1 ∧ s.1.toNat < rs.length) → findE rs t s = ([], 8) := fun h => if_neg h
  refine cI (fun h => ?_) (fun h => ?_)
  · simp only [push_cast, Nat.reduceAdd, Nat.reduceSub, Nat.reduceMul, Nat.reduceLT, Nat.reduceLeDiff, Nat.reduceEqDiff, Int.reduceToNat, ↓reduceIte, bad (by omega), encFE, encL_nil]
  · refine cI (fun h2 => ?_) (fun h2 => ?_)
    · simp only [push_cast, Nat.reduceAdd, Nat.reduceSub, Nat.reduceMul, Nat.reduceLT, Nat.reduceLeDiff, Nat.reduceEqDiff, Int.reduceToNat, ↓reduceIte, bad (by omega), encFE, encL_nil]
    · have hin : 0 ≤ s.1 ∧ s.1.toNat < rs.length := by omega
      have e : findE rs t s = (match atP t s.2 with
        | some x => if (matchP (ruleN rs s.1).1 x []).2 then ((matchP (ruleN rs s.1).1 x []).1, 0) else ([], 9)
        | none => ([], 8)) := if_pos hin
      refine (sub_ac t s.2 hb hs _).to ?_
      cases ha : atP t s.2 with
      | none =>
        simp only [ha] at e
        simp only [push_cast, Nat.reduceAdd, Nat.reduceSub, Nat.reduceMul, Nat.reduceLT, Nat.reduceLeDiff, Nat.reduceEqDiff, Int.reduceToNat, ↓reduceIte, e, encFE, encL_nil]
      | some x =>
        simp only [ha] at e
        have hxb := at_bulk _ _ _ ha
        have hrn := ruleN_get hin.2
        have hlb := hr2 _ (List.getElem_mem hin.2)
        simp only [push_cast, Nat.reduceAdd, Nat.reduceSub, Nat.reduceMul, Nat.reduceLT, Nat.reduceLeDiff, Nat.reduceEqDiff, Int.reduceToNat, ↓reduceIte]
        apply AW_drawE [some 31, some 32, some 33, some 34, some 35, some 36, some 37, some 38, some 30, some 39, some 40, some 10, some 9] [([], _)] [none, none, none, none, none, none, none, none, none, none, none, none, none] 0 [(0, [], [0]), (1, [], [5]), (2, [], [32]), (3, [], [31, 1]), (4, [], [34]), (5, [], [35]), (6, [], [8]), (7, [], [36, 0]), (8, [], [38]), (9, [], [30]), (10, [], [30]), (11, [], [39]), (12, [], [40])] [_, _, _, _, _, _, _, _, _, _, _, _, _]
        case' hm => exact dr
        case' hn => rfl
        case' hok => rfl
        case' hlen => rfl
        case' hd => rfl
        case' h0 => rfl
        case' hstep =>
         simp only [DAllG, push_cast, Option.isSome_some, Option.isSome_none]
         repeat' apply And.intro
         all_goals (apply DOne_V; simp only [push_cast, Nat.reduceAdd, Nat.reduceSub, Nat.reduceMul, Nat.reduceLT, Nat.reduceLeDiff, Nat.reduceEqDiff, Int.reduceToNat, ↓reduceIte] <;> first | exact rfl | omega | exact ⟨rfl, rfl⟩ | exact trivial | exact ⟨by omega, rfl⟩ | exact ⟨by omega, by omega, rfl⟩ | exact ⟨by omega, rfl, rfl⟩ | exact ⟨by omega, by omega, rfl, rfl⟩ | exact ⟨by omega, by omega, trivial⟩ | exact (find_ac (rs[s.1.toNat]'hin.2).1 x hlb.1 (by omega) _).to ⟨rfl, rfl⟩)
        case' hQ => skip
        rw [← hrn]
        cases hm : (matchP (ruleN rs s.1).1 x []).2 with
        | true =>
          rw [hm] at e
          simp only [if_true] at e
          simp only [push_cast, Nat.reduceAdd, Nat.reduceSub, Nat.reduceMul, Nat.reduceLT, Nat.reduceLeDiff, Nat.reduceEqDiff, Int.reduceToNat, ↓reduceIte, e, encFE]
        | false =>
          rw [hm] at e
          simp only [Bool.false_eq_true, if_false] at e
          simp only [push_cast, Nat.reduceAdd, Nat.reduceSub, Nat.reduceMul, Nat.reduceLT, Nat.reduceLeDiff, Nat.reduceEqDiff, Int.reduceToNat, ↓reduceIte, e, encFE, encL_nil]
theorem sys_B {rs : List (Term × Term)} (h : sysP rs = 0) : SysB rs ∧ (∀ r, r ∈ rs → checkP r.1 = 0 ∧ checkP r.2 = 0) ∧ ∀ r, r ∈ rs → extraP r = false := by
  unfold sysP at h
  split at h
  · rename_i h0; exact absurd h h0
  · rename_i h0
    have h0 : rulesP rs = 0 := by simpa using h0
    obtain ⟨h1, h2⟩ := rules_ok h0
    split at h
    · cases h
    · split at h
      · cases h
      · split at h
        · cases h
        · rename_i h3
          refine ⟨⟨h1, fun r hr => ?_⟩, h2, fun r hr => ?_⟩
          · have g1 := check_small (h2 r hr).1
            have g2 := check_small (h2 r hr).2
            omega
          · cases he : extraP r with
            | false => rfl
            | true => exact absurd (List.any_eq_true.2 ⟨r, hr, he⟩) h3
theorem both_ok {rs : List (Term × Term)} {t : Term} (h : bothP rs t = 0) : sysP rs = 0 ∧ checkP t = 0 := by
  unfold bothP at h
  split at h
  · rename_i h0; exact absurd h h0
  · rename_i h0; exact ⟨by simpa using h0, h⟩
structure FindOk (rs : List (Term × Term)) (t : Term) (s : Int × List Int) (x : Term) (σ : List (List UInt8 × Term)) : Prop where
  lo : 0 ≤ s.1
  hi : s.1.toNat < rs.length
  at' : atP t s.2 = some x
  ok : (matchP (ruleN rs s.1).1 x []).2 = true
  eq : (matchP (ruleN rs s.1).1 x []).1 = σ
  mem : ruleN rs s.1 ∈ rs
theorem find_ok {rs : List (Term × Term)} {t : Term} {s : Int × List Int} (h : (findE rs t s).2 = 0) : ∃ x, FindOk rs t s x (findE rs t s).1 := by
  unfold findE at h ⊢
  by_cases hin : 0 ≤ s.1 ∧ s.1.toNat < rs.length
  · rw [if_pos hin] at h ⊢
    cases ha : atP t s.2 with
    | none => rw [ha] at h; cases h
    | some x =>
      rw [ha] at h
      simp only at h ⊢
      cases hm : (matchP (ruleN rs s.1).1 x []).2 with
      | false => rw [hm] at h; cases h
      | true => exact ⟨x, hin.1, hin.2, ha, hm, rfl, by rw [ruleN_get hin.2]; exact List.getElem_mem hin.2⟩
  · rw [if_neg hin] at h; cases h
structure SubOk (σ : List (List UInt8 × Term)) (x : Term) : Prop where
  sorted : SortedN (σ.map (·.1))
  sub : ∀ b, b ∈ σ → SubT x b.2
theorem FindOk.subOk {rs : List (Term × Term)} {t : Term} {s : Int × List Int} {x : Term} {σ : List (List UInt8 × Term)} (h : FindOk rs t s x σ) : SubOk σ x ∧ σ.length ≤ (ruleN rs s.1).1.size := by
  obtain ⟨h1, h2⟩ := matchP_ok (ruleN rs s.1).1 x [] (by simp [SortedN])
  rw [h.eq] at h1 h2
  exact ⟨⟨h1.sorted, fun b hb => (h1.new b hb).resolve_left (by simp)⟩, by simpa using h2⟩
theorem SubOk.bulk {σ : List (List UInt8 × Term)} {x : Term} (h : SubOk σ x) : ∀ b, b ∈ σ → b.2.bulk ≤ x.bulk ∧ b.2.size ≤ x.size := fun b hb => ⟨(h.sub b hb).bulk, (h.sub b hb).sizes.1⟩
theorem SubOk.apply {σ : List (List UInt8 × Term)} {x : Term} (h : SubOk σ x) (hx : x.size ≤ 4000 ∧ x.bulk ≤ 100000) {r : Term} (hr : r.size ≤ 4000 ∧ r.bulk ≤ 100000) : (applyP σ r).size ≤ 16000000 ∧ (applyP σ r).bulk ≤ 20000000000 := by
  have h1 := apply_size σ 4000 (by decide) (fun b hb => by have := (h.bulk b hb).2; omega) r
  have h2 := apply_bulk σ 100000 (fun b hb => by have := (h.bulk b hb).1; omega) r
  have h3 : r.size * 4000 ≤ 4000 * 4000 := Nat.mul_le_mul hr.1 (Nat.le_refl _)
  have h4 : r.bulk * (100000 + 1) ≤ 100000 * (100000 + 1) := Nat.mul_le_mul hr.2 (Nat.le_refl _)
  omega
def rhsP (rs : List (Term × Term)) (t : Term) (s : Int × List Int) : Term := applyP (findE rs t s).1 (ruleN rs s.1).2
def doE (rs : List (Term × Term)) (t : Term) (s : Int × List Int) : Term × Int :=
  if (findE rs t s).2 ≠ 0 then (zeroT, (findE rs t s).2) else if fitsP (rhsP rs t s) = true ∧ fitsP (putP t s.2 (rhsP rs t s)) = true then (putP t s.2 (rhsP rs t s), 0) else (zeroT, 3)
theorem do_ac (rs : List (Term × Term)) (hr : sysP rs = 0) (t : Term) (ht : checkP t = 0) (s : Int × List Int) (hs : s.2.length < 1099511627776) (H : List AObj) :
    ACall Tryz.prog 42 [.sl .none (encL encRu rs), encT t, encSt s] H (fun r H' => r = encRE (doE rs t s) ∧ H' = H) := by
  obtain ⟨hB, hck, _⟩ := sys_B hr
  have htb := check_small ht
  refine ACall_V (H.length) 42 [.cell 6 25, .tmp 7] Tryz.func42 rfl rfl rfl ?_
  simp only [push_cast, Nat.reduceAdd, Nat.reduceSub, Nat.reduceMul, Nat.reduceLT, Nat.reduceLeDiff, Nat.reduceEqDiff, Int.reduceToNat, ↓reduceIte]
  refine (stepFind_ac rs hB t (by omega) s hs _).to ?_
  simp only [push_cast, Nat.reduceAdd, Nat.reduceSub, Nat.reduceMul, Nat.reduceLT, Nat.reduceLeDiff, Nat.reduceEqDiff, Int.reduceToNat, ↓reduceIte, encFE]
  refine cI (fun h => ?_) (fun h => ?_)
  · obtain ⟨x, hf⟩ := find_ok h
    obtain ⟨hso, hsl⟩ := hf.subOk
    have hxs := at_sub _ _ _ hf.at'
    have hxc := check_small (hxs.check ht)
    have hrc := check_small (hck _ hf.mem).2
    have hlc := check_small (hck _ hf.mem).1
    have hap := hso.apply hxc hrc
    have hrn := ruleN_get hf.hi
    have hpb := put_bulk (rhsP rs t s) _ _ _ hf.at'
    have hfm := ((check_iff _).1 ht).1
    have hsp := setP_put _ _ (rhsP rs t s) _ hf.at' hfm
    refine ⟨hf.lo, hf.hi, ?_⟩
    rw [← hrn]
    refine (instance_ac (findE rs t s).1 hso.sorted (by omega) (fun b hb => by have := (hso.bulk b hb).1; omega) (ruleN rs s.1).2 (by omega) (by omega) _).to ?_
    have hb2 : (rhsP rs t s).bulk ≤ 20000000000 := hap.2
    have ed : doE rs t s = if fitsP (rhsP rs t s) = true ∧ fitsP (putP t s.2 (rhsP rs t s)) = true then (putP t s.2 (rhsP rs t s), 0) else (zeroT, 3) := if_neg (by simpa using h)
    cases hf1 : fitsP (rhsP rs t s) with
    | true =>
      have e1 : instE (findE rs t s).1 (ruleN rs s.1).2 = (rhsP rs t s, 0) := if_pos hf1
      simp only [push_cast, Nat.reduceAdd, Nat.reduceSub, Nat.reduceMul, Nat.reduceLT, Nat.reduceLeDiff, Nat.reduceEqDiff, Int.reduceToNat, ↓reduceIte, e1]
      refine (set_ac (rhsP rs t s) (by omega) t (by omega) s.2 hs ⟨x, hf.at'⟩ _).to ?_
      rw [hsp]
      simp only [push_cast, Nat.reduceAdd, Nat.reduceSub, Nat.reduceMul, Nat.reduceLT, Nat.reduceLeDiff, Nat.reduceEqDiff, Int.reduceToNat, ↓reduceIte]
      refine (fit_ac (putP t s.2 (rhsP rs t s)) (by omega) _).to ?_
      cases hf2 : fitsP (putP t s.2 (rhsP rs t s)) with
      | true =>
        have e : doE rs t s = (putP t s.2 (rhsP rs t s), 0) := ed.trans (if_pos ⟨hf1, hf2⟩)
        simp only [push_cast, Nat.reduceAdd, Nat.reduceSub, Nat.reduceMul, Nat.reduceLT, Nat.reduceLeDiff, Nat.reduceEqDiff, Int.reduceToNat, ↓reduceIte, if_true, e]
      | false =>
        have e : doE rs t s = (zeroT, 3) := ed.trans (if_neg (by rw [hf2]; simp))
        simp only [push_cast, Nat.reduceAdd, Nat.reduceSub, Nat.reduceMul, Nat.reduceLT, Nat.reduceLeDiff, Nat.reduceEqDiff, Int.reduceToNat, ↓reduceIte, Bool.false_eq_true, if_false, e]
    | false =>
      have e1 : instE (findE rs t s).1 (ruleN rs s.1).2 = (.mk [] false [], 3) := if_neg (by rw [show fitsP (applyP (findE rs t s).1 (ruleN rs s.1).2) = false from hf1]; simp)
      have e : doE rs t s = (zeroT, 3) := ed.trans (if_neg (by rw [hf1]; simp))
      simp only [push_cast, Nat.reduceAdd, Nat.reduceSub, Nat.reduceMul, Nat.reduceLT, Nat.reduceLeDiff, Nat.reduceEqDiff, Int.reduceToNat, ↓reduceIte, e1, e]
      refine cI (fun h => absurd h (by decide)) (fun _ => ?_)
      simp only [push_cast, Nat.reduceAdd, Nat.reduceSub, Nat.reduceMul, Nat.reduceLT, Nat.reduceLeDiff, Nat.reduceEqDiff, Int.reduceToNat, ↓reduceIte]
  · have e : doE rs t s = (zeroT, (findE rs t s).2) := if_pos h
    simp only [push_cast, Nat.reduceAdd, Nat.reduceSub, Nat.reduceMul, Nat.reduceLT, Nat.reduceLeDiff, Nat.reduceEqDiff, Int.reduceToNat, ↓reduceIte, e]
def stepE (rs : List (Term × Term)) (t : Term) (s : Int × List Int) : Term × Int := if bothP rs t ≠ 0 then (zeroT, bothP rs t) else doE rs t s
theorem step_ac (rs : List (Term × Term)) (hlen : rs.length < 1099511627776) (hb : BndR rs) (t : Term) (ht : t.bulk ≤ 1099511627775) (s : Int × List Int) (hs : s.2.length < 1099511627776) (H : List AObj) :
    ACall Tryz.prog 21 [.sl .none (encL encRu rs), encT t, encSt s] H (fun r H' => r = encRE (stepE rs t s) ∧ H' = H) := by
  refine ACall_V (H.length) 19 [.cell 6 25, .tmp 7] Tryz.func21 rfl rfl rfl ?_
  simp only [push_cast, Nat.reduceAdd, Nat.reduceSub, Nat.reduceMul, Nat.reduceLT, Nat.reduceLeDiff, Nat.reduceEqDiff, Int.reduceToNat, ↓reduceIte]
  refine (both_ac rs hlen hb t ht _).to ?_
  simp only [push_cast, Nat.reduceAdd, Nat.reduceSub, Nat.reduceMul, Nat.reduceLT, Nat.reduceLeDiff, Nat.reduceEqDiff, Int.reduceToNat, ↓reduceIte]
  refine cI (fun h => ?_) (fun h => ?_)
  · obtain ⟨h1, h2⟩ := both_ok h
    have e : stepE rs t s = doE rs t s := if_neg (by simpa using h)
    refine (do_ac rs h1 t h2 s hs _).to ?_
    simp only [push_cast, Nat.reduceAdd, Nat.reduceSub, Nat.reduceMul, Nat.reduceLT, Nat.reduceLeDiff, Nat.reduceEqDiff, Int.reduceToNat, ↓reduceIte, e]
  · have e : stepE rs t s = (zeroT, bothP rs t) := if_pos h
    simp only [push_cast, Nat.reduceAdd, Nat.reduceSub, Nat.reduceMul, Nat.reduceLT, Nat.reduceLeDiff, Nat.reduceEqDiff, Int.reduceToNat, ↓reduceIte, e]
def redE (rs : List (Term × Term)) (t : Term) (s : Int) : List (Int × List Int) × Int := if bothP rs t ≠ 0 then ([], bothP rs t) else if 1 ≤ s ∧ s ≤ 5 then (underP rs t s, 0) else ([], 2)
def encLE (q : List (Int × List Int) × Int) : AV := .tup [.sl .none (encL encSt q.1), .int .i64 q.2]
theorem redexes_ac (rs : List (Term × Term)) (hlen : rs.length < 1099511627776) (hb : BndR rs) (t : Term) (ht : t.bulk ≤ 1099511627775) (s : Int) (H : List AObj) :
    ACall Tryz.prog 17 [.sl .none (encL encRu rs), encT t, .int .i64 s] H (fun r H' => r = encLE (redE rs t s) ∧ H' = H) := by
  refine ACall_V (H.length) 19 [.tmp 6, .tmp 7] Tryz.func17 rfl rfl rfl ?_
  simp only [push_cast, Nat.reduceAdd, Nat.reduceSub, Nat.reduceMul, Nat.reduceLT, Nat.reduceLeDiff, Nat.reduceEqDiff, Int.reduceToNat, ↓reduceIte]
  refine (both_ac rs hlen hb t ht _).to ?_
  simp only [push_cast, Nat.reduceAdd, Nat.reduceSub, Nat.reduceMul, Nat.reduceLT, Nat.reduceLeDiff, Nat.reduceEqDiff, Int.reduceToNat, ↓reduceIte]
  refine cI (fun h => ?_) (fun h => ?_)
  · obtain ⟨h1, h2⟩ := both_ok h
    refine (strategic_ac s _).to ?_
    simp only [push_cast, Nat.reduceAdd, Nat.reduceSub, Nat.reduceMul, Nat.reduceLT, Nat.reduceLeDiff, Nat.reduceEqDiff, Int.reduceToNat, ↓reduceIte]
    refine cI (fun hs => ?_) (fun hs => ?_)
    · have e : redE rs t s = (underP rs t s, 0) := (if_neg (by simpa using h)).trans (if_pos hs)
      refine (under_ac rs (sys_B h1).1 t (by have := check_small h2; omega) s _).to ?_
      simp only [push_cast, Nat.reduceAdd, Nat.reduceSub, Nat.reduceMul, Nat.reduceLT, Nat.reduceLeDiff, Nat.reduceEqDiff, Int.reduceToNat, ↓reduceIte, e, encLE]
    · have e : redE rs t s = ([], 2) := (if_neg (by simpa using h)).trans (if_neg hs)
      simp only [push_cast, Nat.reduceAdd, Nat.reduceSub, Nat.reduceMul, Nat.reduceLT, Nat.reduceLeDiff, Nat.reduceEqDiff, Int.reduceToNat, ↓reduceIte, e, encLE, encL_nil]
  · have e : redE rs t s = ([], bothP rs t) := if_pos h
    simp only [push_cast, Nat.reduceAdd, Nat.reduceSub, Nat.reduceMul, Nat.reduceLT, Nat.reduceLeDiff, Nat.reduceEqDiff, Int.reduceToNat, ↓reduceIte, e, encLE, encL_nil]
end Ab
