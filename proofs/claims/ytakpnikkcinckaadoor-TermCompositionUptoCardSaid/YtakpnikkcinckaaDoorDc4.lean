/- Part 4 of 4 of a proof. The law TermComposition, walked region by region and joined to the card. -/
import Derived.Test.YtakpnikkcinckaaDoorDc3
import Derived.Test.YtakpnikkcinckaaDoorCards
import Derived.Test.YtakpnikkcinckaaDoorTie
import Derived.Deep.DeepHandedRow
import Derived.Lib.LaidTab
set_option linter.unusedVariables false
set_option linter.unusedSimpArgs false
set_option maxRecDepth 10000
namespace Ab
open Go Go.Proofs
theorem replace_ac (σ : List (List UInt8 × Term)) (hs : SortedN (σ.map (·.1))) (hlen : σ.length < 1099511627776) (hbk : ∀ b, b ∈ σ → b.2.bulk ≤ 1099511627775) (t : Term) : t.bulk ≤ 1099511627775 → ∀ H, ACall Tryd.prog 106 [.sl .none (encL encBd σ), encT t] H (fun r H' => r = encT (applyP σ t) ∧ H' = H) := by
  induction t using Term.ind with | _ n u xs ih
  intro hb H
  have hl := Term.len_le (n := n) (v := u) (xs := xs)
  cases u with
  | true =>
    rw [applyP_t, image_look]
    refine ACall_V (H.length) 43 [.cell 4 24] Tryd.func106 rfl rfl rfl ?_
    simp only [push_cast, Nat.reduceAdd, Nat.reduceSub, Nat.reduceMul, Nat.reduceLT, Nat.reduceLeDiff, Nat.reduceEqDiff, Int.reduceToNat, ↓reduceIte]
    refine (imageT_ac σ hs n hlen _).to ?_
    rcases look_cases (σ := σ) n with ⟨b, hbm, _, e⟩ | e
    · have hbb := hbk b hbm
      simp only [push_cast, Nat.reduceAdd, Nat.reduceSub, Nat.reduceMul, Nat.reduceLT, Nat.reduceLeDiff, Nat.reduceEqDiff, Int.reduceToNat, ↓reduceIte, e, Option.isSome_some, Option.getD_some]
      refine (own_ac b.2 (by omega) _).to ?_
      simp only [push_cast, Nat.reduceAdd, Nat.reduceSub, Nat.reduceMul, Nat.reduceLT, Nat.reduceLeDiff, Nat.reduceEqDiff, Int.reduceToNat, ↓reduceIte]
    · simp only [push_cast, Nat.reduceAdd, Nat.reduceSub, Nat.reduceMul, Nat.reduceLT, Nat.reduceLeDiff, Nat.reduceEqDiff, Int.reduceToNat, ↓reduceIte, e, Option.isSome_none, Option.getD_none]
  | false =>
    rw [applyP_f]
    refine ACall_V (H.length) 43 [.cell 4 24] Tryd.func106 rfl rfl rfl ?_
    simp only [push_cast, Nat.reduceAdd, Nat.reduceSub, Nat.reduceMul, Nat.reduceLT, Nat.reduceLeDiff, Nat.reduceEqDiff, Int.reduceToNat, ↓reduceIte]
    refine AW_reserve 1 ?_
    refine AW_loopW (maskG 45 [0, 3, 2, 21, 0, 0]) (fun (i : Nat) => [(31, .int .i64 i)]) (fun i => H ++ [.cells [.str n, .bool false, .sl .none (encTs xs)], .cells [.str [], .bool false, .sl .zero []], .cells [.str n, .bool false, gSl (H.length + 3) (encTs (appL σ (xs.take i)))], gTok 24 3 (encTs (appL σ (xs.take i)))]) (fun i => i ≤ xs.length) (fun i => xs.length - i) 0 (Nat.zero_le _) (by simp only [push_cast, Nat.reduceAdd, Nat.reduceSub, Nat.reduceMul, Nat.reduceLT, Nat.reduceLeDiff, Nat.reduceEqDiff, Int.reduceToNat, ↓reduceIte, List.take_zero, appL_nil]) (fun i hi => ?_)
    simp only [push_cast, Nat.reduceAdd, Nat.reduceSub, Nat.reduceMul, Nat.reduceLT, Nat.reduceLeDiff, Nat.reduceEqDiff, Int.reduceToNat, ↓reduceIte]
    refine cI (fun h => ?_) (fun h => ?_)
    · have hil : i < xs.length := by omega
      repeat refine ⟨by omega, ?_⟩
      have hal := appL_len σ (xs.take i)
      rw [List.length_take] at hal
      apply AW_drawE [some 35, some 36, some 37, some 38, some 39, some 40, some 41, some 42, none] [([false, false], _), ([true, false], _), ([true, true], _)] [none, none, none, none, none, none, some 0, none, some 1] 2 [(0, [false, false], [7]), (1, [false, false], [35]), (2, [false, false], [0]), (3, [false, false], [9]), (4, [false, false], [37, 0]), (5, [false, false], [39]), (6, [false, false], [36, 3]), (7, [true, false], [7]), (8, [true, false], [41, 0]), (0, [true, false], [7]), (2, [true, false], [0]), (3, [true, false], [9])] [_, _, _, _, _, _, _, _, _]
      case' hm => exact dr
      case' hn => rfl
      case' hok => rfl
      case' hlen => rfl
      case' hd => rfl
      case' h0 => rfl
      case' hstep =>
       simp only [DAllG, push_cast, Option.isSome_some, Option.isSome_none]
       repeat' apply And.intro
       all_goals (apply DOne_V; simp only [push_cast, Nat.reduceAdd, Nat.reduceSub, Nat.reduceMul, Nat.reduceLT, Nat.reduceLeDiff, Nat.reduceEqDiff, Int.reduceToNat, ↓reduceIte] <;> first | exact rfl | omega | exact ⟨rfl, rfl⟩ | exact trivial | exact ⟨by omega, rfl⟩ | exact ⟨by omega, by omega, rfl⟩ | exact ⟨by omega, rfl, rfl⟩ | exact ⟨by omega, by omega, rfl, rfl⟩ | exact (ih _ (List.getElem_mem hil) (arg_bulk hb i hil) _).to ⟨rfl, rfl⟩ | (refine app1_T _ (H.length + 3) (appL σ (xs.take i)) (applyP σ (xs[i]'hil)) _ rfl rfl (by exact (agetN _ _ 3).trans rfl) sl22 sz24 by24 zr24 rfl (by decide) (by omega) ?_; simp only [push_cast, Nat.reduceAdd, Nat.reduceSub, Nat.reduceMul, Nat.reduceLT, Nat.reduceLeDiff, Nat.reduceEqDiff, Int.reduceToNat, ↓reduceIte]; exact ⟨rfl, rfl⟩))
      case' hQ => skip
      simp only [push_cast, Nat.reduceAdd, Nat.reduceSub, Nat.reduceMul, Nat.reduceLT, Nat.reduceLeDiff, Nat.reduceEqDiff, Int.reduceToNat, ↓reduceIte, ← appL_take σ xs i hil]
      repeat' first | refine ⟨by omega, ?_⟩ | refine cI (fun _ => ?_) (fun _ => ?_)
      exact loopW_n (i + 1) (by omega) (by omega) (by simp only [push_cast, Nat.reduceAdd, Nat.reduceSub, Nat.reduceMul, Nat.reduceLT, Nat.reduceLeDiff, Nat.reduceEqDiff, Int.reduceToNat, ↓reduceIte])
    · simp only [push_cast, Nat.reduceAdd, Nat.reduceSub, Nat.reduceMul, Nat.reduceLT, Nat.reduceLeDiff, Nat.reduceEqDiff, Int.reduceToNat, ↓reduceIte, List.take_of_length_le (show xs.length ≤ i by omega)]
def instE (σ : List (List UInt8 × Term)) (t : Term) : Term × Int := if fitsP (applyP σ t) then (applyP σ t, 0) else (.mk [] false [], 3)
theorem instance_ac (σ : List (List UInt8 × Term)) (hs : SortedN (σ.map (·.1))) (hlen : σ.length < 1099511627776) (hbk : ∀ b, b ∈ σ → b.2.bulk ≤ 1099511627775) (t : Term) (hb : t.bulk ≤ 1099511627775) (hb2 : (applyP σ t).size ≤ 1099511627775) (H : List AObj) : ACall Tryd.prog 84 [.sl .none (encL encBd σ), encT t] H (fun r H' => r = encRE (instE σ t) ∧ H' = H) := by
  have hd := (applyP σ t).depth_le
  refine ACall_V (H.length) 20 [.cell 4 24, .tmp 5] Tryd.func84 rfl rfl rfl ?_
  simp only [push_cast, Nat.reduceAdd, Nat.reduceSub, Nat.reduceMul, Nat.reduceLT, Nat.reduceLeDiff, Nat.reduceEqDiff, Int.reduceToNat, ↓reduceIte]
  refine (measure_ac σ hs hlen hbk t hb hb2 _).to ?_
  simp only [push_cast, Nat.reduceAdd, Nat.reduceSub, Nat.reduceMul, Nat.reduceLT, Nat.reduceLeDiff, Nat.reduceEqDiff, Int.reduceToNat, ↓reduceIte]
  refine cI (fun h => ?_) (fun h => ?_)
  · have h1 : ¬ (applyP σ t).size ≤ 4000 := by omega
    have e : instE σ t = (.mk [] false [], 3) := by simp [instE, fitsP, h1]
    simp only [push_cast, Nat.reduceAdd, Nat.reduceSub, Nat.reduceMul, Nat.reduceLT, Nat.reduceLeDiff, Nat.reduceEqDiff, Int.reduceToNat, ↓reduceIte, e]
  · have h1 : (applyP σ t).size ≤ 4000 := by omega
    refine cI (fun h2 => ?_) (fun h2 => ?_)
    · have h3 : ¬ (applyP σ t).depth ≤ 200 := by omega
      have e : instE σ t = (.mk [] false [], 3) := by simp [instE, fitsP, h3]
      simp only [push_cast, Nat.reduceAdd, Nat.reduceSub, Nat.reduceMul, Nat.reduceLT, Nat.reduceLeDiff, Nat.reduceEqDiff, Int.reduceToNat, ↓reduceIte, e]
    · have h3 : (applyP σ t).depth ≤ 200 := by omega
      have e : instE σ t = (applyP σ t, 0) := by simp [instE, fitsP, h1, h3]
      refine (replace_ac σ hs hlen hbk t hb _).to ?_
      simp only [push_cast, Nat.reduceAdd, Nat.reduceSub, Nat.reduceMul, Nat.reduceLT, Nat.reduceLeDiff, Nat.reduceEqDiff, Int.reduceToNat, ↓reduceIte, e]
def applyE (σ : List (List UInt8 × Term)) (t : Term) : Term × Int := if subCheck σ ≠ 0 then (.mk [] false [], subCheck σ) else if checkP t ≠ 0 then (.mk [] false [], checkP t) else instE σ t
theorem sub_ok {σ : List (List UInt8 × Term)} (h : subCheck σ = 0) : SortedN (σ.map (·.1)) ∧ (∀ b, b ∈ σ → b.2.size ≤ 4000 ∧ b.2.bulk ≤ 100000 ∧ formedP b.2 = true) ∧ ∀ b, b ∈ σ → b.1.length ≤ 24 := by
  obtain ⟨h1, h2⟩ := (subCheck_iff σ).1 h
  refine ⟨h1, fun b hb => ?_, fun b hb => name_small (h2 b hb).1⟩
  have h3 := check_small (h2 b hb).2
  exact ⟨h3.1, h3.2, ((check_iff _).1 (h2 b hb).2).1⟩
theorem inst_size {σ : List (List UInt8 × Term)} (h : subCheck σ = 0) {t : Term} (ht : checkP t = 0) : (applyP σ t).size ≤ 16000000 ∧ (applyP σ t).bulk ≤ 400000000 := by
  obtain ⟨h1, h2, h3⟩ := sub_ok h
  have h4 := check_small ht
  have h5 := apply_size σ 4000 (by decide) (fun b hb => (h2 b hb).1) t
  have h6 := formed_bulk _ (formed_apply σ (fun b hb => (h2 b hb).2.2) t ((check_iff t).1 ht).1)
  omega
theorem applyT_ac (σ : List (List UInt8 × Term)) (hlen : σ.length < 1099511627776) (hnl : ∀ b, b ∈ σ → b.1.length < 1099511627776 ∧ b.2.bulk ≤ 1099511627775) (t : Term) (hb : t.bulk ≤ 1099511627775) (H : List AObj) : ACall Tryd.prog 46 [.sl .none (encL encBd σ), encT t] H (fun r H' => r = encRE (applyE σ t) ∧ H' = H) := by
  refine ACall_V (H.length) 23 [.cell 4 24, .tmp 5] Tryd.func46 rfl rfl rfl ?_
  simp only [push_cast, Nat.reduceAdd, Nat.reduceSub, Nat.reduceMul, Nat.reduceLT, Nat.reduceLeDiff, Nat.reduceEqDiff, Int.reduceToNat, ↓reduceIte]
  refine (subCheckT_ac σ hlen hnl _).to ?_
  simp only [push_cast, Nat.reduceAdd, Nat.reduceSub, Nat.reduceMul, Nat.reduceLT, Nat.reduceLeDiff, Nat.reduceEqDiff, Int.reduceToNat, ↓reduceIte]
  refine cI (fun h => ?_) (fun h => ?_)
  · refine (check_ac t hb _).to ?_
    simp only [push_cast, Nat.reduceAdd, Nat.reduceSub, Nat.reduceMul, Nat.reduceLT, Nat.reduceLeDiff, Nat.reduceEqDiff, Int.reduceToNat, ↓reduceIte]
    refine cI (fun h2 => ?_) (fun h2 => ?_)
    · have hz := inst_size h h2
      refine (instance_ac σ (sub_ok h).1 hlen (fun b hb => (hnl b hb).2) t hb (by omega) _).to ?_
      have e : applyE σ t = instE σ t := by simp [applyE, h, h2]
      simp only [push_cast, Nat.reduceAdd, Nat.reduceSub, Nat.reduceMul, Nat.reduceLT, Nat.reduceLeDiff, Nat.reduceEqDiff, Int.reduceToNat, ↓reduceIte, e]
    · have e : applyE σ t = (.mk [] false [], checkP t) := by simp [applyE, h, h2]
      simp only [push_cast, Nat.reduceAdd, Nat.reduceSub, Nat.reduceMul, Nat.reduceLT, Nat.reduceLeDiff, Nat.reduceEqDiff, Int.reduceToNat, ↓reduceIte, e]
  · have e : applyE σ t = (.mk [] false [], subCheck σ) := by simp [applyE, h]
    simp only [push_cast, Nat.reduceAdd, Nat.reduceSub, Nat.reduceMul, Nat.reduceLT, Nat.reduceLeDiff, Nat.reduceEqDiff, Int.reduceToNat, ↓reduceIte, e]
end Ab
set_option maxRecDepth 10000
namespace Go.Proofs
open Go.Shelf Go.RowKit Go.Lib Go.Sort
set_option maxHeartbeats 1000000 in
theorem Tryd.sortBindC (a b : ByteArray) (a1 a2 a3 b1 b2 b3 : Value) (W : World) : Calls Tryd.prog 87 #[.agg #[.string a, a1, a2, a3], .agg #[.string b, b1, b2, b3]] W fun e w' => e = .returned (.int .i64 (Lib.compareBytes a.data.toList b.data.toList)) ∧ ∃ q os', w' = grow (W.drewN q) os' := by
  have hcon := fun W' => Tryd.strings_Compare a b W'
  generalize Lib.compareBytes a.data.toList b.data.toList = r at hcon ⊢
  go_enter Tryd.func87, Tryd.ntmps87
  go_wp2_with (go_at_call 79; refine (hcon _).mono ?_; rintro e w' ⟨rfl, rfl⟩)
  go_ret
  exact ⟨rfl, 0, _, by rw [alloc_eq_grow, alloc_eq_grow, grow_grow]; rfl⟩
end Go.Proofs
namespace Ab
open Go Go.Proofs
@[reducible] def BR := (List UInt8 × Term) × (Option Addr × Nat × Nat)
instance : Inhabited BR := ⟨(([], .mk [] false []), (none, 0, 0))⟩
def encBR (a : BR) : List Value := [.string ⟨a.1.1.toArray⟩, .string ⟨a.1.2.name.toArray⟩, .bool a.1.2.var, .slice a.2.1 a.2.2.1 a.2.2.2]
theorem cb_swo : Go.Sort.SWO (ltOf fun a b : BR => Lib.compareBytes a.1.1 b.1.1) := by
  have hz : ∀ x y : BR, ltOf (fun a b : BR => Lib.compareBytes a.1.1 b.1.1) x y = decide (Lib.compareBytes x.1.1 y.1.1 < 0) := fun _ _ => rfl
  refine ⟨fun x => ?_, fun x y z h1 h2 => ?_, fun x y z h1 h2 => ?_⟩
  · rw [hz, cb_self]; rfl
  · rw [hz, decide_eq_true_eq] at *; exact cb_trans _ _ _ h1 h2
  · rw [hz, decide_eq_false_iff_not] at *
    intro h3
    by_cases e : x.1.1 = y.1.1
    · rw [e] at h3; exact h2 h3
    · exact h2 (cb_trans _ _ _ (cb_tot _ _ h1 e) h3)
theorem sortB_ac (k : Nat) (σ : List (List UInt8 × Term)) (hlen : σ.length < 1099511627776) (H : List AObj) (hk : H[k]? = some (grO 57 4 (encL encBd σ))) :
    ACall Tryd.prog 86 [grS k (encL encBd σ), .fn 87 []] H (fun r H' => ∃ σ', σ.Perm σ' ∧ σ'.Pairwise (fun a b => ¬ Lib.compareBytes b.1 a.1 < 0) ∧ r = .tup [] ∧ H' = H.set k (grO 57 4 (encL encBd σ'))) :=
  sortG (ρ := Tryd.sortBind_ren) Tryd.sortBind 4 (by decide) Tryd.isAgg57 Tryd.sizeOf57 encBd (fun _ => rfl) cellBd encBR (fun _ => rfl) (fun a v hv => by
      simp only [encBR, List.mem_cons, List.not_mem_nil, or_false] at hv
      rcases hv with rfl | rfl | rfl | rfl <;> rfl) Prod.fst (fun C x vs hl h => by
      match vs, hl with
      | [a, b, c, d], _ =>
        have h0 := h 0 (by simp [AV.cells]) (by simp)
        have h1 := h 1 (by simp [AV.cells]) (by simp)
        have h2 := h 2 (by simp [AV.cells]) (by simp)
        have h3 := h 3 (by simp [AV.cells]) (by simp)
        have g0 := VRel.str_inv (show VRel C (.str x.1) a from h0)
        have g1 := VRel.str_inv (show VRel C (.str x.2.name) b from h1)
        have h2' : VRel C (.bool x.2.var) c := h2
        have h3' : VRel C (.sl .none (encTs x.2.args)) d := h3
        subst g0 g1
        cases h2'
        cases h3' with
        | sl _ _ ad n cp f hn hc hrow hrel htok => exact ⟨(x, (ad, n, cp)), rfl, rfl⟩)
    (fun a b => Lib.compareBytes a.1 b.1) cb_swo 87 (enters_of Tryd.func87 (by kernel_rfl) rfl) (fun w a b => Tryd.sortBindC _ _ _ _ _ _ _ _ w) k σ 57 hlen H hk
end Ab
set_option maxRecDepth 10000
namespace Ab
open Go Go.Proofs
section
variable {P : Program} {ro : Option Nat} {st : ASt} {dst : Option Tmp} {ty : TypeId} {pos : String} {after : Array Edge} {guard : Option (Nat × Bool)} {K : AV → List AObj → Prop}
theorem app1_G {α : Type} (enc : α → AV) {t e by_ sz : Nat} {s x : Operand} (hu : ∀ x, (enc x).cells.length = sz) (hc : ∀ x c, c ∈ (enc x).cells → c.isCell = true) (zs : List Value) (k : Nat) (xs : List α) (y : α) (tk : Tok) (hs : st.opd s = grS k (encL enc xs)) (hx : st.opd x = .sl tk [enc y]) (hh : st.heap[k]? = some (grO e sz (encL enc xs)))
    (ht : SliceT P t e) (hsz : SzOf P e sz) (hby : BytesOf P e by_) (hz : ZeroOf P e zs) (hz0 : zs.length = sz) (h0 : 0 < sz) (hb : by_ ≤ 100) (hl : xs.length < 1099511627776)
    (k' : K (grS k (encL enc (xs ++ [y]))) (st.heap.set k (grO e sz (encL enc (xs ++ [y]))))) :
    AOp P ro ⟨dst, .call { callee := .builtin .append, args := #[s, x], argTypes := #[t, t] }, ty, pos, after, guard⟩ K st := by
  have e1 : encL enc (xs ++ [y]) = encL enc xs ++ [enc y] := by simp [encL]
  rw [e1] at k'
  refine AOp_append_Gr zs k (encL enc xs) [enc y] tk hs hx hh ht hsz hby hz hz0 h0 (uni_encL hu xs) (by intro x hx; rw [List.mem_singleton] at hx; subst hx; exact hu y) (fun c h => hc y c (by simpa [flat] using h)) ?_ (by rw [encL_length]; simp; omega) k'
  rw [encL_length]
  calc (xs.length + 1) * by_ ≤ 1099511627776 * 100 := Nat.mul_le_mul (by omega) hb
    _ ≤ _ := by decide
end
def compE (σ τ : List (List UInt8 × Term)) : List (List UInt8 × Term) × Int := if subCheck σ ≠ 0 then ([], subCheck σ) else if subCheck τ ≠ 0 then ([], subCheck τ) else if σ.all (fun b => fitsP (applyP τ b.2)) then (compS σ τ, 0) else ([], 3)
def encSE (r : List (List UInt8 × Term) × Int) : AV := .tup [.sl .none (encL encBd r.1), .int .i64 r.2]
def mapA (τ σ : List (List UInt8 × Term)) : List (List UInt8 × Term) := σ.map fun b => (b.1, applyP τ b.2)
theorem mapA_take (τ σ : List (List UInt8 × Term)) (i : Nat) (h : i < σ.length) : mapA τ (σ.take (i + 1)) = mapA τ (σ.take i) ++ [(σ[i].1, applyP τ σ[i].2)] := by
  unfold mapA; rw [List.take_succ_eq_append_getElem h, List.map_append]; rfl
theorem mapA_nil (τ : List (List UInt8 × Term)) : mapA τ [] = [] := (rfl)
theorem mapA_len (τ σ : List (List UInt8 × Term)) : (mapA τ σ).length = σ.length := by simp [mapA]
theorem insOnly_nil (σ : List (List UInt8 × Term)) : insOnly σ [] = [] := (rfl)
theorem insOnly_take (σ τ : List (List UInt8 × Term)) (i : Nat) (h : i < τ.length) : insOnly σ (τ.take (i + 1)) = insOnly σ (τ.take i) ++ (if (look σ τ[i].1).isNone then [τ[i]] else []) := by
  unfold insOnly; rw [List.take_succ_eq_append_getElem h, List.filter_append]; congr 1
  by_cases e : (look σ τ[i].1).isNone = true <;> simp [e]
theorem insOnly_len (σ τ : List (List UInt8 × Term)) : (insOnly σ τ).length ≤ τ.length := List.length_filter_le _ _
theorem flat_encBd (l : List (List UInt8 × Term)) : (flat (encL encBd l)).length = l.length * 4 := by rw [flat_length (uni_encL (enc := encBd) (k := 4) (fun _ => rfl) l), encL_length]
theorem scflB (n : Nat) (l : List (List UInt8 × Term)) : ScopedL n (flat (encL encBd l)) = True := by
  refine eq_true ?_
  rw [ScopedL_iff]
  intro v hv
  unfold flat encL at hv
  rw [List.mem_flatMap] at hv
  obtain ⟨a, ha, hv⟩ := hv
  obtain ⟨b, _, rfl⟩ := List.mem_map.1 ha
  simp only [AV.cells, List.mem_cons, List.not_mem_nil, or_false] at hv
  rcases hv with rfl | rfl | rfl | rfl <;> simp [Scoped, scoped_encTs]
attribute [push_cast] scflB
theorem compose_ac (σ τ : List (List UInt8 × Term)) (h1 : σ.length < 1000000000) (h2 : τ.length < 1000000000) (hn1 : ∀ b, b ∈ σ → b.1.length < 1099511627776 ∧ b.2.bulk ≤ 1099511627775) (hn2 : ∀ b, b ∈ τ → b.1.length < 1099511627776 ∧ b.2.bulk ≤ 1099511627775) (H : List AObj) :
    ACall Tryd.prog 47 [.sl .none (encL encBd σ), .sl .none (encL encBd τ)] H (fun r H' => r = encSE (compE σ τ) ∧ H' = H) := by
  refine ACall_VGA (H.length) 80 [.tmp 4, .tmp 5] Tryd.func47 rfl rfl rfl ?_
  refine AW_reserve 1 ?_
  refine AW_of_W ?_
  simp only [push_cast, Nat.reduceAdd, Nat.reduceSub, Nat.reduceMul, Nat.reduceLT, Nat.reduceLeDiff, Nat.reduceEqDiff, Int.reduceToNat, ↓reduceIte]
  refine AW_loopW (maskG 82 [0, 0, 18, 0]) (fun (i : Nat) => [(21, .int .i64 i)]) (fun i => H ++ [.dead]) (fun i => i ≤ 2 ∧ (0 < i → subCheck σ = 0) ∧ (1 < i → subCheck τ = 0)) (fun i => 2 - i) 0 ⟨by omega, by omega, by omega⟩ (by simp only [push_cast, Nat.reduceAdd, Nat.reduceSub, Nat.reduceMul, Nat.reduceLT, Nat.reduceLeDiff, Nat.reduceEqDiff, Int.reduceToNat, ↓reduceIte]) (fun i hi => ?_)
  simp only [push_cast, Nat.reduceAdd, Nat.reduceSub, Nat.reduceMul, Nat.reduceLT, Nat.reduceLeDiff, Nat.reduceEqDiff, Int.reduceToNat, ↓reduceIte]
  refine cI (fun h => ?_) (fun h => ?_)
  · have hi01 : i = 0 ∨ i = 1 := by omega
    rcases hi01 with rfl | rfl
    · repeat refine ⟨by omega, ?_⟩
      simp only [push_cast, Nat.reduceAdd, Nat.reduceSub, Nat.reduceMul, Nat.reduceLT, Nat.reduceLeDiff, Nat.reduceEqDiff, Int.reduceToNat, ↓reduceIte, Nat.zero_mul, List.getElem_cons_zero]
      refine (subCheckT_ac σ (by omega) hn1 _).to ?_
      simp only [push_cast, Nat.reduceAdd, Nat.reduceSub, Nat.reduceMul, Nat.reduceLT, Nat.reduceLeDiff, Nat.reduceEqDiff, Int.reduceToNat, ↓reduceIte]
      refine cI (fun hs => ?_) (fun hs => ?_)
      · repeat' first | refine ⟨by omega, ?_⟩ | refine cI (fun _ => ?_) (fun _ => ?_)
        exact loopW_n 1 ⟨by omega, fun _ => hs, by omega⟩ (by omega) (by simp only [push_cast, Nat.reduceAdd, Nat.reduceSub, Nat.reduceMul, Nat.reduceLT, Nat.reduceLeDiff, Nat.reduceEqDiff, Int.reduceToNat, ↓reduceIte])
      · have e : compE σ τ = ([], subCheck σ) := by simp [compE, hs]
        simp only [push_cast, Nat.reduceAdd, Nat.reduceSub, Nat.reduceMul, Nat.reduceLT, Nat.reduceLeDiff, Nat.reduceEqDiff, Int.reduceToNat, ↓reduceIte, e, encSE, encL_nil]
        exact .fgt (by simp only [push_cast, Nat.reduceAdd, Nat.reduceSub, Nat.reduceMul, Nat.reduceLT, Nat.reduceLeDiff, Nat.reduceEqDiff, Int.reduceToNat, ↓reduceIte])
    · repeat refine ⟨by omega, ?_⟩
      simp only [push_cast, Nat.reduceAdd, Nat.reduceSub, Nat.reduceMul, Nat.reduceLT, Nat.reduceLeDiff, Nat.reduceEqDiff, Int.reduceToNat, ↓reduceIte, Nat.one_mul, List.getElem_cons_succ, List.getElem_cons_zero]
      refine (subCheckT_ac τ (by omega) hn2 _).to ?_
      simp only [push_cast, Nat.reduceAdd, Nat.reduceSub, Nat.reduceMul, Nat.reduceLT, Nat.reduceLeDiff, Nat.reduceEqDiff, Int.reduceToNat, ↓reduceIte]
      refine cI (fun hs => ?_) (fun hs => ?_)
      · repeat' first | refine ⟨by omega, ?_⟩ | refine cI (fun _ => ?_) (fun _ => ?_)
        exact loopW_n 2 ⟨by omega, fun _ => hi.2.1 (by omega), fun _ => hs⟩ (by omega) (by simp only [push_cast, Nat.reduceAdd, Nat.reduceSub, Nat.reduceMul, Nat.reduceLT, Nat.reduceLeDiff, Nat.reduceEqDiff, Int.reduceToNat, ↓reduceIte])
      · have e : compE σ τ = ([], subCheck τ) := by simp [compE, hs, hi.2.1]
        simp only [push_cast, Nat.reduceAdd, Nat.reduceSub, Nat.reduceMul, Nat.reduceLT, Nat.reduceLeDiff, Nat.reduceEqDiff, Int.reduceToNat, ↓reduceIte, e, encSE, encL_nil]
        exact .fgt (by simp only [push_cast, Nat.reduceAdd, Nat.reduceSub, Nat.reduceMul, Nat.reduceLT, Nat.reduceLeDiff, Nat.reduceEqDiff, Int.reduceToNat, ↓reduceIte])
  · have hs := hi.2.1 (by omega)
    have ht := hi.2.2 (by omega)
    refine AW_loopW (maskG 82 [0, 0, 7, 20, 0, 0]) (fun (i : Nat) => [(9, grS H.length (encL encBd (mapA τ (σ.take i)))), (32, .int .i64 i)]) (fun i => H ++ [grO 57 4 (encL encBd (mapA τ (σ.take i)))]) (fun i => i ≤ σ.length ∧ (σ.take i).all (fun b => fitsP (applyP τ b.2)) = true) (fun i => σ.length - i) 0 ⟨by omega, by simp⟩ (by simp only [push_cast, Nat.reduceAdd, Nat.reduceSub, Nat.reduceMul, Nat.reduceLT, Nat.reduceLeDiff, Nat.reduceEqDiff, Int.reduceToNat, ↓reduceIte, List.take_zero, mapA_nil, encL_nil]) (fun i hi => ?_)
    simp only [push_cast, Nat.reduceAdd, Nat.reduceSub, Nat.reduceMul, Nat.reduceLT, Nat.reduceLeDiff, Nat.reduceEqDiff, Int.reduceToNat, ↓reduceIte]
    refine cI (fun h2 => ?_) (fun h2 => ?_)
    · have hil : i < σ.length := by omega
      repeat refine ⟨by omega, ?_⟩
      have hbm := List.getElem_mem hil
      have hck := (((subCheck_iff σ).1 hs).2 _ hbm).2
      have hz := inst_size ht hck
      have hml := mapA_len τ (σ.take i)
      rw [List.length_take] at hml
      refine (instance_ac τ (sub_ok ht).1 (by omega) (fun b hb => (hn2 b hb).2) (σ[i]'hil).2 (hn1 _ hbm).2 (by omega) _).to ?_
      cases hf : fitsP (applyP τ (σ[i]'hil).2) with
      | true =>
        have e : instE τ (σ[i]'hil).2 = (applyP τ (σ[i]'hil).2, 0) := by simp [instE, hf]
        simp only [push_cast, Nat.reduceAdd, Nat.reduceSub, Nat.reduceMul, Nat.reduceLT, Nat.reduceLeDiff, Nat.reduceEqDiff, Int.reduceToNat, ↓reduceIte, e]
        refine app1_G encBd (sz := 4) (fun _ => rfl) cellBd _ H.length (mapA τ (σ.take i)) ((σ[i]'hil).1, applyP τ (σ[i]'hil).2) _ rfl rfl (by exact aget0 _ _ _) sl52 sz57 by57 zr57 rfl (by decide) (by decide) (by omega) ?_
        rw [← mapA_take τ σ i hil]
        simp only [push_cast, Nat.reduceAdd, Nat.reduceSub, Nat.reduceMul, Nat.reduceLT, Nat.reduceLeDiff, Nat.reduceEqDiff, Int.reduceToNat, ↓reduceIte]
        repeat' first | refine ⟨by omega, ?_⟩ | refine cI (fun _ => ?_) (fun _ => ?_)
        exact loopW_n (i + 1) ⟨by omega, all_take_true hi.2 hil hf⟩ (by omega) (by simp only [push_cast, Nat.reduceAdd, Nat.reduceSub, Nat.reduceMul, Nat.reduceLT, Nat.reduceLeDiff, Nat.reduceEqDiff, Int.reduceToNat, ↓reduceIte])
      | false =>
        have e : instE τ (σ[i]'hil).2 = (.mk [] false [], 3) := by simp [instE, hf]
        have e2 : compE σ τ = ([], 3) := by
          have := all_get (xs := σ) (p := fun b => fitsP (applyP τ b.2)) hil hf
          simp [compE, hs, ht, this]
        simp only [push_cast, Nat.reduceAdd, Nat.reduceSub, Nat.reduceMul, Nat.reduceLT, Nat.reduceLeDiff, Nat.reduceEqDiff, Int.reduceToNat, ↓reduceIte, e, e2, encSE, encL_nil]
        exact cI (fun h => absurd h (by decide)) (fun _ => .fgt (by simp only [push_cast, Nat.reduceAdd, Nat.reduceSub, Nat.reduceMul, Nat.reduceLT, Nat.reduceLeDiff, Nat.reduceEqDiff, Int.reduceToNat, ↓reduceIte]))
    · have hil : i = σ.length := by omega
      rw [hil, List.take_length] at hi
      rw [List.take_of_length_le (show σ.length ≤ i by omega)]
      have hml := mapA_len τ σ
      refine AW_loopW (maskG 82 [0, 8, 44, 0, 0]) (fun (i : Nat) => [(9, grS H.length (encL encBd (mapA τ σ ++ insOnly σ (τ.take i)))), (56, .int .i64 i)]) (fun i => H ++ [grO 57 4 (encL encBd (mapA τ σ ++ insOnly σ (τ.take i)))]) (fun i => i ≤ τ.length) (fun i => τ.length - i) 0 (by omega) (by simp only [push_cast, Nat.reduceAdd, Nat.reduceSub, Nat.reduceMul, Nat.reduceLT, Nat.reduceLeDiff, Nat.reduceEqDiff, Int.reduceToNat, ↓reduceIte, List.take_zero, insOnly_nil]) (fun j hj => ?_)
      simp only [push_cast, Nat.reduceAdd, Nat.reduceSub, Nat.reduceMul, Nat.reduceLT, Nat.reduceLeDiff, Nat.reduceEqDiff, Int.reduceToNat, ↓reduceIte]
      refine cI (fun h3 => ?_) (fun h3 => ?_)
      · have hjl : j < τ.length := by omega
        repeat refine ⟨by omega, ?_⟩
        have hbm := List.getElem_mem hjl
        have htk := insOnly_take σ τ j hjl
        have hol := insOnly_len σ (τ.take j)
        rw [List.length_take] at hol
        refine (imageT_ac σ (sub_ok hs).1 (τ[j]'hjl).1 (by omega) _).to ?_
        cases hk : (look σ (τ[j]'hjl).1) with
        | some t =>
          simp only [hk, Option.isNone_some, Bool.false_eq_true, if_false, List.append_nil] at htk
          simp only [push_cast, Nat.reduceAdd, Nat.reduceSub, Nat.reduceMul, Nat.reduceLT, Nat.reduceLeDiff, Nat.reduceEqDiff, Int.reduceToNat, ↓reduceIte, Option.isSome_some]
          repeat' first | refine ⟨by omega, ?_⟩ | refine cI (fun _ => ?_) (fun _ => ?_)
          refine loopW_n (j + 1) (by omega) (by omega) ?_
          rw [htk]
          simp only [push_cast, Nat.reduceAdd, Nat.reduceSub, Nat.reduceMul, Nat.reduceLT, Nat.reduceLeDiff, Nat.reduceEqDiff, Int.reduceToNat, ↓reduceIte]
        | none =>
          simp only [hk, Option.isNone_none, if_true] at htk
          simp only [push_cast, Nat.reduceAdd, Nat.reduceSub, Nat.reduceMul, Nat.reduceLT, Nat.reduceLeDiff, Nat.reduceEqDiff, Int.reduceToNat, ↓reduceIte, Option.isSome_none]
          apply AW_drawO [[9], [], [], [], [], [], [], [], [], []] [some 69, some 70, some 71, some 72, some 73, some 74, some 75, some 76, some 77, some 9] [([false], _), ([true], _)] [none, none, none, none, none, none, none, none, some 0, none] 1 [(0, [false], [9]), (1, [false], [15]), (2, [false], [70]), (3, [false], [15]), (4, [false], [72]), (5, [false], [73]), (6, [false], [71, 2]), (7, [false], [75]), (8, [false], [69, 6]), (9, [true], [77]), (1, [true], [15]), (2, [true], [70]), (3, [true], [15]), (4, [true], [72]), (6, [true], [71, 2])] [_, _, _, _, _, _, _, _, _, _]
          case' hm => exact dr
          case' hn => rfl
          case' hok => rfl
          case' hlen => rfl
          case' hd => rfl
          case' h0 => rfl
          case' hstep =>
           simp only [DAllO, push_cast, Option.isSome_some, Option.isSome_none]
           repeat' apply And.intro
           all_goals (apply DOne_V; simp only [push_cast, Nat.reduceAdd, Nat.reduceSub, Nat.reduceMul, Nat.reduceLT, Nat.reduceLeDiff, Nat.reduceEqDiff, Int.reduceToNat, ↓reduceIte] <;> first | exact rfl | omega | exact ⟨rfl, rfl⟩ | exact trivial | exact ⟨by omega, rfl⟩ | exact ⟨by omega, by omega, rfl⟩ | exact ⟨by omega, rfl, rfl⟩ | exact ⟨by omega, by omega, rfl, rfl⟩ | exact (own_ac (τ[j]'hjl).2 (hn2 _ hbm).2 _).to ⟨rfl, rfl⟩ | (refine app1_G encBd (sz := 4) (fun _ => rfl) cellBd _ H.length (mapA τ σ ++ insOnly σ (τ.take j)) (τ[j]'hjl) _ rfl rfl (by exact aget0 _ _ _) sl52 sz57 by57 zr57 rfl (by decide) (by decide) (by rw [List.length_append]; omega) ?_; simp only [push_cast, Nat.reduceAdd, Nat.reduceSub, Nat.reduceMul, Nat.reduceLT, Nat.reduceLeDiff, Nat.reduceEqDiff, Int.reduceToNat, ↓reduceIte]; exact ⟨rfl, rfl⟩))
          case' hQ => skip
          simp only [push_cast, Nat.reduceAdd, Nat.reduceSub, Nat.reduceMul, Nat.reduceLT, Nat.reduceLeDiff, Nat.reduceEqDiff, Int.reduceToNat, ↓reduceIte]
          repeat' first | refine ⟨by omega, ?_⟩ | refine cI (fun _ => ?_) (fun _ => ?_)
          refine loopW_n (j + 1) (by omega) (by omega) ?_
          rw [htk, ← List.append_assoc]
          simp only [push_cast, Nat.reduceAdd, Nat.reduceSub, Nat.reduceMul, Nat.reduceLT, Nat.reduceLeDiff, Nat.reduceEqDiff, Int.reduceToNat, ↓reduceIte]
      · rw [List.take_of_length_le (show τ.length ≤ j by omega)]
        have hol := insOnly_len σ τ
        have hcl : (mapA τ σ ++ insOnly σ τ).length < 1099511627776 := by rw [List.length_append]; omega
        have hcp : (compS σ τ).Perm (mapA τ σ ++ insOnly σ τ) := compL_perm (sub_ok hs).1 (sub_ok ht).1
        obtain ⟨L, hL⟩ : ∃ L, L = mapA τ σ ++ insOnly σ τ := ⟨_, rfl⟩
        rw [← hL] at hcl hcp ⊢
        refine (sortB_ac H.length L hcl _ (by exact aget0 _ _ _)).mono ?_
        rintro r H' ⟨σ', hp, hw, rfl, rfl⟩
        have hσ : σ' = compS σ τ := sortedS_unique (hcp.trans hp) (compS_sorted σ τ) hw
        subst hσ
        have e : compE σ τ = (compS σ τ, 0) := by simp [compE, hs, ht, hi.2]
        simp only [push_cast, Nat.reduceAdd, Nat.reduceSub, Nat.reduceMul, Nat.reduceLT, Nat.reduceLeDiff, Nat.reduceEqDiff, Int.reduceToNat, ↓reduceIte, e, encSE]
        rw [grS_len H.length (show (encL encBd L).length = (encL encBd (compS σ τ)).length by rw [encL_length, encL_length, hp.length_eq])]
        exact .row2 H.length 57 4 (by exact aget0 _ _ _) (by rw [flat_encBd, encL_length]) (by omega) (of_eq_true (scflB _ _)) (by simp only [push_cast, Nat.reduceAdd, Nat.reduceSub, Nat.reduceMul, Nat.reduceLT, Nat.reduceLeDiff, Nat.reduceEqDiff, Int.reduceToNat, ↓reduceIte])
end Ab
set_option maxRecDepth 10000
namespace Ab
open Go Go.Proofs
def compFit (σ τ : List (List UInt8 × Term)) : Bool := (compNames σ τ).all fun v => fitsP (applyP τ (imageP σ v))
theorem compFit_eq {σ τ : List (List UInt8 × Term)} (hs : subCheck σ = 0) (ht : subCheck τ = 0) : compFit σ τ = σ.all fun b => fitsP (applyP τ b.2) := by
  have h1 := (subCheck_iff σ).1 hs
  have h2 := (subCheck_iff τ).1 ht
  unfold compFit
  rw [Bool.eq_iff_iff, List.all_eq_true, List.all_eq_true]
  constructor
  · intro h b hb
    have := h b.1 ((mem_compNames σ τ _).2 (.inl ⟨b, hb, rfl⟩))
    rwa [image_look, look_mem h1.1 hb] at this
  · intro h v hv
    rcases look_cases (σ := σ) v with ⟨b, hb, rfl, e⟩ | e
    · rw [image_look, e]; exact h b hb
    · have hn := look_isNone (σ := σ).1 (by rw [e]; rfl)
      rcases (mem_compNames σ τ v).1 hv with ⟨b, hb, hbv⟩ | ⟨b, hb, rfl⟩
      · exact absurd hbv (hn b hb)
      · rw [image_look σ, e]
        show fitsP (applyP τ (.mk b.1 true [])) = true
        rw [apply_var, image_look, look_mem h2.1 hb]
        exact ((check_iff _).1 (h2.2 b hb).2).2
end Ab
set_option maxRecDepth 10000
namespace Ab
open Go Go.Proofs
theorem compE_ok {σ τ s : List (List UInt8 × Term)} (h : (s, (0 : Int)) = compE σ τ) : subCheck σ = 0 ∧ subCheck τ = 0 ∧ s = compS σ τ ∧ compFit σ τ = true := by
  unfold compE at h
  split at h
  · rename_i h1
    injection h with _ h; exact absurd h.symm h1
  · split at h
    · rename_i h1
      injection h with _ h; exact absurd h.symm h1
    · rename_i h1 h2
      have h1 : subCheck σ = 0 := by simpa using h1
      have h2 : subCheck τ = 0 := by simpa using h2
      split at h
      · rename_i h3
        injection h with h _
        exact ⟨h1, h2, h, by rw [compFit_eq h1 h2]; exact h3⟩
      · injection h with _ h; cases h
theorem compE_len {σ τ s : List (List UInt8 × Term)} {e : Int} (h : (s, e) = compE σ τ) : s.length ≤ σ.length + τ.length := by
  have h5 := sortedP_len ((σ ++ τ).map (·.1))
  rw [List.length_map, List.length_append] at h5
  unfold compE at h
  split at h
  · injection h with h _; rw [h]; simp
  · split at h
    · injection h with h _; rw [h]; simp
    · split at h
      · injection h with h _; rw [h]; unfold compS compNames; rw [List.length_map]; exact h5
      · injection h with h _; rw [h]; simp
theorem bnd_of {σ : List (List UInt8 × Term)} (h : subCheck σ = 0) : ∀ b, b ∈ σ → b.1.length < 1099511627776 ∧ b.2.bulk ≤ 1099511627775 := by
  obtain ⟨h1, h2, h3⟩ := sub_ok h
  intro b hb
  have := (h2 b hb).2.1
  have := h3 b hb
  omega
theorem comp_check {σ τ s : List (List UInt8 × Term)} (h : (s, (0 : Int)) = compE σ τ) : subCheck s = 0 := by
  obtain ⟨hs, ht, rfl, hf⟩ := compE_ok h
  rw [subCheck_iff]
  have h1 := (subCheck_iff σ).1 hs
  have h2 := (subCheck_iff τ).1 ht
  refine ⟨compS_sorted σ τ, fun b hb => ?_⟩
  obtain ⟨v, hv, rfl⟩ := List.mem_map.1 hb
  have hn : isNameP v false = true := by
    rcases (mem_compNames σ τ v).1 hv with ⟨b, hbm, rfl⟩ | ⟨b, hbm, rfl⟩
    · exact (h1.2 b hbm).1
    · exact (h2.2 b hbm).1
  refine ⟨hn, (check_iff _).2 ⟨formed_apply τ (fun b hb => ((check_iff _).1 (h2.2 b hb).2).1) _ ?_, ?_⟩⟩
  · rw [image_look]
    rcases look_cases (σ := σ) v with ⟨b, hb, _, e⟩ | e
    · rw [e]; exact ((check_iff _).1 (h1.2 b hb).2).1
    · rw [e]; show formedP (.mk v true []) = true
      rw [formedP_mk]; simp [hn]
  · unfold compFit at hf
    rw [List.all_eq_true] at hf
    exact hf v hv
theorem applyE_ok {σ : List (List UInt8 × Term)} {t x : Term} (h : (x, (0 : Int)) = applyE σ t) : x = applyP σ t := by
  unfold applyE at h
  split at h
  · rename_i h1
    injection h with _ h; exact absurd h.symm h1
  · split at h
    · rename_i h1
      injection h with _ h; exact absurd h.symm h1
    · unfold instE at h
      split at h
      · injection h with h _
      · injection h with _ h; cases h
theorem applyE_bulk {σ : List (List UInt8 × Term)} {t x : Term} {e : Int} (h : (x, e) = applyE σ t) : x.bulk ≤ 100000 := by
  have hz : (Term.mk [] false []).bulk ≤ 100000 := by simp [Term.bulk_mk]
  unfold applyE at h
  split at h
  · injection h with h _; rw [h]; exact hz
  · rename_i h1
    split at h
    · injection h with h _; rw [h]; exact hz
    · rename_i h2
      have h1 : subCheck σ = 0 := by simpa using h1
      have h2 : checkP t = 0 := by simpa using h2
      unfold instE at h
      split at h
      · rename_i h3
        injection h with h _; rw [h]
        exact (check_small ((check_iff _).2 ⟨formed_apply σ (fun b hb => ((sub_ok h1).2.1 b hb).2.2) t ((check_iff t).1 h2).1, h3⟩)).2
      · injection h with h _; rw [h]; exact hz
theorem comp_assoc {a b c su uw one two : List (List UInt8 × Term)} {t : Term} (hab : (su, (0 : Int)) = compE a b) (hbc : (uw, (0 : Int)) = compE b c) (hone : (one, (0 : Int)) = compE su c) (htwo : (two, (0 : Int)) = compE a uw) (ht : checkP t = 0) :
    ∃ X l, applyE one t = (X, l) ∧ applyE two t = (X, l) ∧ (l = 0 ∨ l = 3) ∧ X.bulk ≤ 100000 ∧ subCheck one = 0 ∧ subCheck two = 0 := by
  have c1 := comp_check hone
  have c2 := comp_check htwo
  have c3 := comp_check hab
  have c4 := comp_check hbc
  obtain ⟨ga, gb, gsu, _⟩ := compE_ok hab
  obtain ⟨_, gc, guw, _⟩ := compE_ok hbc
  obtain ⟨_, _, gone, _⟩ := compE_ok hone
  obtain ⟨_, _, gtwo, _⟩ := compE_ok htwo
  have e1 : applyP one t = applyP c (applyP b (applyP a t)) := by rw [gone, apply_comp (sub_ok gc).1, gsu, apply_comp (sub_ok gb).1]
  have e2 : applyP two t = applyP c (applyP b (applyP a t)) := by rw [gtwo, apply_comp (sub_ok c4).1, guw, apply_comp (sub_ok gc).1]
  have i1 : applyE one t = instE one t := by simp [applyE, c1, ht]
  have i2 : applyE two t = instE two t := by simp [applyE, c2, ht]
  have i3 : instE one t = instE two t := by unfold instE; rw [e1, e2]
  obtain ⟨⟨X, l⟩, hX⟩ : ∃ p, p = applyE one t := ⟨_, rfl⟩
  refine ⟨X, l, hX.symm, by rw [i2, ← i3, ← i1]; exact hX.symm, ?_, applyE_bulk hX, c1, c2⟩
  rw [i1] at hX
  unfold instE at hX
  split at hX
  · injection hX with _ h; exact .inl h
  · injection hX with _ h; exact .inr h
set_option maxHeartbeats 1600000 in
theorem composition_ac (hit : ∀ i H, i < 100 → ACall Tryd.prog 92 [.int .i64 (i : Nat)] H (fun r H' => r = .str (Lib.decDigits i) ∧ H' = H)) (a b c : List (List UInt8 × Term)) (t : Term) (h1 : a.length ≤ 1048576) (h2 : b.length ≤ 1048576) (h3 : c.length ≤ 1048576) (haB : ∀ x, x ∈ a → x.1.length < 1099511627776 ∧ x.2.bulk ≤ 1099511627775) (hbB : ∀ x, x ∈ b → x.1.length < 1099511627776 ∧ x.2.bulk ≤ 1099511627775) (hcB : ∀ x, x ∈ c → x.1.length < 1099511627776 ∧ x.2.bulk ≤ 1099511627775) (hb : t.bulk ≤ 1048576) (H : List AObj) :
    ACall Tryd.prog 9 [.agg [.sl .none (encL encBd a), .sl .none (encL encBd b), .sl .none (encL encBd c)], encT t] H (fun r H' => r = .bool true ∧ H' = H) := by
  obtain ⟨⟨su, e⟩, hab⟩ : ∃ p, p = compE a b := ⟨_, rfl⟩
  obtain ⟨⟨uw, f⟩, hbc⟩ : ∃ p, p = compE b c := ⟨_, rfl⟩
  refine ACall_V (H.length) 137 [.tmp 4] Tryd.func9 rfl rfl rfl ?_
  simp only [push_cast, Nat.reduceAdd, Nat.reduceSub, Nat.reduceMul, Nat.reduceLT, Nat.reduceLeDiff, Nat.reduceEqDiff, Int.reduceToNat, ↓reduceIte]
  repeat refine ⟨by omega, ?_⟩
  refine (compose_ac a b (by omega) (by omega) haB hbB _).to ?_
  simp only [push_cast, Nat.reduceAdd, Nat.reduceSub, Nat.reduceMul, Nat.reduceLT, Nat.reduceLeDiff, Nat.reduceEqDiff, Int.reduceToNat, ↓reduceIte, ← hab, encSE]
  repeat refine ⟨by omega, ?_⟩
  refine (compose_ac b c (by omega) (by omega) hbB hcB _).to ?_
  simp only [push_cast, Nat.reduceAdd, Nat.reduceSub, Nat.reduceMul, Nat.reduceLT, Nat.reduceLeDiff, Nat.reduceEqDiff, Int.reduceToNat, ↓reduceIte, ← hbc, encSE]
  refine cI (fun he => ?_) (fun he => ?_)
  · refine cI (fun hf => ?_) (fun hf => ?_)
    · subst he hf
      have hsuB := bnd_of (comp_check hab)
      have huwB := bnd_of (comp_check hbc)
      have hsul := compE_len hab
      have huwl := compE_len hbc
      obtain ⟨⟨one, j⟩, hone⟩ : ∃ p, p = compE su c := ⟨_, rfl⟩
      obtain ⟨⟨two, k⟩, htwo⟩ : ∃ p, p = compE a uw := ⟨_, rfl⟩
      obtain ⟨⟨A, g⟩, hA⟩ : ∃ p, p = applyE su t := ⟨_, rfl⟩
      obtain ⟨⟨B, h⟩, hB⟩ : ∃ p, p = applyE a t := ⟨_, rfl⟩
      obtain ⟨⟨D, i⟩, hD⟩ : ∃ p, p = applyE b B := ⟨_, rfl⟩
      have hAb := applyE_bulk hA
      have hBb := applyE_bulk hB
      have hDb := applyE_bulk hD
      simp only [push_cast, Nat.reduceAdd, Nat.reduceSub, Nat.reduceMul, Nat.reduceLT, Nat.reduceLeDiff, Nat.reduceEqDiff, Int.reduceToNat, ↓reduceIte]
      refine (applyT_ac su (by omega) hsuB t (by omega) _).to ?_
      simp only [push_cast, Nat.reduceAdd, Nat.reduceSub, Nat.reduceMul, Nat.reduceLT, Nat.reduceLeDiff, Nat.reduceEqDiff, Int.reduceToNat, ↓reduceIte, ← hA]
      repeat refine ⟨by omega, ?_⟩
      refine (applyT_ac a (by omega) haB t (by omega) _).to ?_
      simp only [push_cast, Nat.reduceAdd, Nat.reduceSub, Nat.reduceMul, Nat.reduceLT, Nat.reduceLeDiff, Nat.reduceEqDiff, Int.reduceToNat, ↓reduceIte, ← hB]
      repeat refine ⟨by omega, ?_⟩
      refine (applyT_ac b (by omega) hbB B (by omega) _).to ?_
      simp only [push_cast, Nat.reduceAdd, Nat.reduceSub, Nat.reduceMul, Nat.reduceLT, Nat.reduceLeDiff, Nat.reduceEqDiff, Int.reduceToNat, ↓reduceIte, ← hD]
      refine cI (fun hg => ?_) (fun hg => ?_)
      · refine cI (fun hh => ?_) (fun hh => ?_)
        · refine cI (fun hi => ?_) (fun hi => ?_)
          · subst hg hh hi
            have hAD : A = D := by rw [applyE_ok hA, applyE_ok hD, applyE_ok hB, (compE_ok hab).2.2.1, apply_comp (sub_ok (compE_ok hab).2.1).1]
            refine (equalR_ac A D (by omega) (by omega) _).to ?_
            simp only [push_cast, Nat.reduceAdd, Nat.reduceSub, Nat.reduceMul, Nat.reduceLT, Nat.reduceLeDiff, Nat.reduceEqDiff, Int.reduceToNat, ↓reduceIte, decide_eq_true hAD]
            repeat refine ⟨by omega, ?_⟩
            refine (compose_ac su c (by omega) (by omega) hsuB hcB _).to ?_
            simp only [push_cast, Nat.reduceAdd, Nat.reduceSub, Nat.reduceMul, Nat.reduceLT, Nat.reduceLeDiff, Nat.reduceEqDiff, Int.reduceToNat, ↓reduceIte, ← hone, encSE]
            repeat refine ⟨by omega, ?_⟩
            refine (compose_ac a uw (by omega) (by omega) haB huwB _).to ?_
            simp only [push_cast, Nat.reduceAdd, Nat.reduceSub, Nat.reduceMul, Nat.reduceLT, Nat.reduceLeDiff, Nat.reduceEqDiff, Int.reduceToNat, ↓reduceIte, ← htwo, encSE]
            refine cI (fun hj => ?_) (fun hj => ?_)
            · refine cI (fun hk => ?_) (fun hk => ?_)
              · refine (checkR_ac t (by omega) _).to ?_
                simp only [push_cast, Nat.reduceAdd, Nat.reduceSub, Nat.reduceMul, Nat.reduceLT, Nat.reduceLeDiff, Nat.reduceEqDiff, Int.reduceToNat, ↓reduceIte]
                refine cI (fun ht => ?_) (fun ht => ?_)
                · subst hj hk
                  obtain ⟨X, l, hX1, hX2, hl, hXb, ho1, ho2⟩ := comp_assoc hab hbc hone htwo ht
                  have hoB := bnd_of ho1
                  have htB := bnd_of ho2
                  have hol := compE_len hone
                  have htl := compE_len htwo
                  refine (applyT_ac one (by omega) hoB t (by omega) _).to ?_
                  simp only [push_cast, Nat.reduceAdd, Nat.reduceSub, Nat.reduceMul, Nat.reduceLT, Nat.reduceLeDiff, Nat.reduceEqDiff, Int.reduceToNat, ↓reduceIte, hX1]
                  refine (applyT_ac two (by omega) htB t (by omega) _).to ?_
                  simp only [push_cast, Nat.reduceAdd, Nat.reduceSub, Nat.reduceMul, Nat.reduceLT, Nat.reduceLeDiff, Nat.reduceEqDiff, Int.reduceToNat, ↓reduceIte, hX2, decide_true]
                  refine (equalR_ac X X (by omega) (by omega) _).to ?_
                  rcases hl with rfl | rfl
                  · simp only [push_cast, Nat.reduceAdd, Nat.reduceSub, Nat.reduceMul, Nat.reduceLT, Nat.reduceLeDiff, Nat.reduceEqDiff, Int.reduceToNat, ↓reduceIte, decide_true]
                    refine (alive_ac hit _).to ?_
                    simp only [push_cast, Nat.reduceAdd, Nat.reduceSub, Nat.reduceMul, Nat.reduceLT, Nat.reduceLeDiff, Nat.reduceEqDiff, Int.reduceToNat, ↓reduceIte]
                  · simp only [push_cast, Nat.reduceAdd, Nat.reduceSub, Nat.reduceMul, Nat.reduceLT, Nat.reduceLeDiff, Nat.reduceEqDiff, Int.reduceToNat, ↓reduceIte, decide_true]
                    refine cI (fun h => absurd h (by decide)) (fun _ => ?_)
                    refine (alive_ac hit _).to ?_
                    simp only [push_cast, Nat.reduceAdd, Nat.reduceSub, Nat.reduceMul, Nat.reduceLT, Nat.reduceLeDiff, Nat.reduceEqDiff, Int.reduceToNat, ↓reduceIte]
                · refine (alive_ac hit _).to ?_
                  simp only [push_cast, Nat.reduceAdd, Nat.reduceSub, Nat.reduceMul, Nat.reduceLT, Nat.reduceLeDiff, Nat.reduceEqDiff, Int.reduceToNat, ↓reduceIte]
              · refine (alive_ac hit _).to ?_
                simp only [push_cast, Nat.reduceAdd, Nat.reduceSub, Nat.reduceMul, Nat.reduceLT, Nat.reduceLeDiff, Nat.reduceEqDiff, Int.reduceToNat, ↓reduceIte]
            · refine (alive_ac hit _).to ?_
              simp only [push_cast, Nat.reduceAdd, Nat.reduceSub, Nat.reduceMul, Nat.reduceLT, Nat.reduceLeDiff, Nat.reduceEqDiff, Int.reduceToNat, ↓reduceIte]
          · skip
            repeat refine ⟨by omega, ?_⟩
            refine (compose_ac su c (by omega) (by omega) hsuB hcB _).to ?_
            simp only [push_cast, Nat.reduceAdd, Nat.reduceSub, Nat.reduceMul, Nat.reduceLT, Nat.reduceLeDiff, Nat.reduceEqDiff, Int.reduceToNat, ↓reduceIte, ← hone, encSE]
            repeat refine ⟨by omega, ?_⟩
            refine (compose_ac a uw (by omega) (by omega) haB huwB _).to ?_
            simp only [push_cast, Nat.reduceAdd, Nat.reduceSub, Nat.reduceMul, Nat.reduceLT, Nat.reduceLeDiff, Nat.reduceEqDiff, Int.reduceToNat, ↓reduceIte, ← htwo, encSE]
            refine cI (fun hj => ?_) (fun hj => ?_)
            · refine cI (fun hk => ?_) (fun hk => ?_)
              · refine (checkR_ac t (by omega) _).to ?_
                simp only [push_cast, Nat.reduceAdd, Nat.reduceSub, Nat.reduceMul, Nat.reduceLT, Nat.reduceLeDiff, Nat.reduceEqDiff, Int.reduceToNat, ↓reduceIte]
                refine cI (fun ht => ?_) (fun ht => ?_)
                · subst hj hk
                  obtain ⟨X, l, hX1, hX2, hl, hXb, ho1, ho2⟩ := comp_assoc hab hbc hone htwo ht
                  have hoB := bnd_of ho1
                  have htB := bnd_of ho2
                  have hol := compE_len hone
                  have htl := compE_len htwo
                  refine (applyT_ac one (by omega) hoB t (by omega) _).to ?_
                  simp only [push_cast, Nat.reduceAdd, Nat.reduceSub, Nat.reduceMul, Nat.reduceLT, Nat.reduceLeDiff, Nat.reduceEqDiff, Int.reduceToNat, ↓reduceIte, hX1]
                  refine (applyT_ac two (by omega) htB t (by omega) _).to ?_
                  simp only [push_cast, Nat.reduceAdd, Nat.reduceSub, Nat.reduceMul, Nat.reduceLT, Nat.reduceLeDiff, Nat.reduceEqDiff, Int.reduceToNat, ↓reduceIte, hX2, decide_true]
                  refine (equalR_ac X X (by omega) (by omega) _).to ?_
                  rcases hl with rfl | rfl
                  · simp only [push_cast, Nat.reduceAdd, Nat.reduceSub, Nat.reduceMul, Nat.reduceLT, Nat.reduceLeDiff, Nat.reduceEqDiff, Int.reduceToNat, ↓reduceIte, decide_true]
                    refine (alive_ac hit _).to ?_
                    simp only [push_cast, Nat.reduceAdd, Nat.reduceSub, Nat.reduceMul, Nat.reduceLT, Nat.reduceLeDiff, Nat.reduceEqDiff, Int.reduceToNat, ↓reduceIte]
                  · simp only [push_cast, Nat.reduceAdd, Nat.reduceSub, Nat.reduceMul, Nat.reduceLT, Nat.reduceLeDiff, Nat.reduceEqDiff, Int.reduceToNat, ↓reduceIte, decide_true]
                    refine cI (fun h => absurd h (by decide)) (fun _ => ?_)
                    refine (alive_ac hit _).to ?_
                    simp only [push_cast, Nat.reduceAdd, Nat.reduceSub, Nat.reduceMul, Nat.reduceLT, Nat.reduceLeDiff, Nat.reduceEqDiff, Int.reduceToNat, ↓reduceIte]
                · refine (alive_ac hit _).to ?_
                  simp only [push_cast, Nat.reduceAdd, Nat.reduceSub, Nat.reduceMul, Nat.reduceLT, Nat.reduceLeDiff, Nat.reduceEqDiff, Int.reduceToNat, ↓reduceIte]
              · refine (alive_ac hit _).to ?_
                simp only [push_cast, Nat.reduceAdd, Nat.reduceSub, Nat.reduceMul, Nat.reduceLT, Nat.reduceLeDiff, Nat.reduceEqDiff, Int.reduceToNat, ↓reduceIte]
            · refine (alive_ac hit _).to ?_
              simp only [push_cast, Nat.reduceAdd, Nat.reduceSub, Nat.reduceMul, Nat.reduceLT, Nat.reduceLeDiff, Nat.reduceEqDiff, Int.reduceToNat, ↓reduceIte]
        · skip
          repeat refine ⟨by omega, ?_⟩
          refine (compose_ac su c (by omega) (by omega) hsuB hcB _).to ?_
          simp only [push_cast, Nat.reduceAdd, Nat.reduceSub, Nat.reduceMul, Nat.reduceLT, Nat.reduceLeDiff, Nat.reduceEqDiff, Int.reduceToNat, ↓reduceIte, ← hone, encSE]
          repeat refine ⟨by omega, ?_⟩
          refine (compose_ac a uw (by omega) (by omega) haB huwB _).to ?_
          simp only [push_cast, Nat.reduceAdd, Nat.reduceSub, Nat.reduceMul, Nat.reduceLT, Nat.reduceLeDiff, Nat.reduceEqDiff, Int.reduceToNat, ↓reduceIte, ← htwo, encSE]
          refine cI (fun hj => ?_) (fun hj => ?_)
          · refine cI (fun hk => ?_) (fun hk => ?_)
            · refine (checkR_ac t (by omega) _).to ?_
              simp only [push_cast, Nat.reduceAdd, Nat.reduceSub, Nat.reduceMul, Nat.reduceLT, Nat.reduceLeDiff, Nat.reduceEqDiff, Int.reduceToNat, ↓reduceIte]
              refine cI (fun ht => ?_) (fun ht => ?_)
              · subst hj hk
                obtain ⟨X, l, hX1, hX2, hl, hXb, ho1, ho2⟩ := comp_assoc hab hbc hone htwo ht
                have hoB := bnd_of ho1
                have htB := bnd_of ho2
                have hol := compE_len hone
                have htl := compE_len htwo
                refine (applyT_ac one (by omega) hoB t (by omega) _).to ?_
                simp only [push_cast, Nat.reduceAdd, Nat.reduceSub, Nat.reduceMul, Nat.reduceLT, Nat.reduceLeDiff, Nat.reduceEqDiff, Int.reduceToNat, ↓reduceIte, hX1]
                refine (applyT_ac two (by omega) htB t (by omega) _).to ?_
                simp only [push_cast, Nat.reduceAdd, Nat.reduceSub, Nat.reduceMul, Nat.reduceLT, Nat.reduceLeDiff, Nat.reduceEqDiff, Int.reduceToNat, ↓reduceIte, hX2, decide_true]
                refine (equalR_ac X X (by omega) (by omega) _).to ?_
                rcases hl with rfl | rfl
                · simp only [push_cast, Nat.reduceAdd, Nat.reduceSub, Nat.reduceMul, Nat.reduceLT, Nat.reduceLeDiff, Nat.reduceEqDiff, Int.reduceToNat, ↓reduceIte, decide_true]
                  refine (alive_ac hit _).to ?_
                  simp only [push_cast, Nat.reduceAdd, Nat.reduceSub, Nat.reduceMul, Nat.reduceLT, Nat.reduceLeDiff, Nat.reduceEqDiff, Int.reduceToNat, ↓reduceIte]
                · simp only [push_cast, Nat.reduceAdd, Nat.reduceSub, Nat.reduceMul, Nat.reduceLT, Nat.reduceLeDiff, Nat.reduceEqDiff, Int.reduceToNat, ↓reduceIte, decide_true]
                  refine cI (fun h => absurd h (by decide)) (fun _ => ?_)
                  refine (alive_ac hit _).to ?_
                  simp only [push_cast, Nat.reduceAdd, Nat.reduceSub, Nat.reduceMul, Nat.reduceLT, Nat.reduceLeDiff, Nat.reduceEqDiff, Int.reduceToNat, ↓reduceIte]
              · refine (alive_ac hit _).to ?_
                simp only [push_cast, Nat.reduceAdd, Nat.reduceSub, Nat.reduceMul, Nat.reduceLT, Nat.reduceLeDiff, Nat.reduceEqDiff, Int.reduceToNat, ↓reduceIte]
            · refine (alive_ac hit _).to ?_
              simp only [push_cast, Nat.reduceAdd, Nat.reduceSub, Nat.reduceMul, Nat.reduceLT, Nat.reduceLeDiff, Nat.reduceEqDiff, Int.reduceToNat, ↓reduceIte]
          · refine (alive_ac hit _).to ?_
            simp only [push_cast, Nat.reduceAdd, Nat.reduceSub, Nat.reduceMul, Nat.reduceLT, Nat.reduceLeDiff, Nat.reduceEqDiff, Int.reduceToNat, ↓reduceIte]
      · skip
        repeat refine ⟨by omega, ?_⟩
        refine (compose_ac su c (by omega) (by omega) hsuB hcB _).to ?_
        simp only [push_cast, Nat.reduceAdd, Nat.reduceSub, Nat.reduceMul, Nat.reduceLT, Nat.reduceLeDiff, Nat.reduceEqDiff, Int.reduceToNat, ↓reduceIte, ← hone, encSE]
        repeat refine ⟨by omega, ?_⟩
        refine (compose_ac a uw (by omega) (by omega) haB huwB _).to ?_
        simp only [push_cast, Nat.reduceAdd, Nat.reduceSub, Nat.reduceMul, Nat.reduceLT, Nat.reduceLeDiff, Nat.reduceEqDiff, Int.reduceToNat, ↓reduceIte, ← htwo, encSE]
        refine cI (fun hj => ?_) (fun hj => ?_)
        · refine cI (fun hk => ?_) (fun hk => ?_)
          · refine (checkR_ac t (by omega) _).to ?_
            simp only [push_cast, Nat.reduceAdd, Nat.reduceSub, Nat.reduceMul, Nat.reduceLT, Nat.reduceLeDiff, Nat.reduceEqDiff, Int.reduceToNat, ↓reduceIte]
            refine cI (fun ht => ?_) (fun ht => ?_)
            · subst hj hk
              obtain ⟨X, l, hX1, hX2, hl, hXb, ho1, ho2⟩ := comp_assoc hab hbc hone htwo ht
              have hoB := bnd_of ho1
              have htB := bnd_of ho2
              have hol := compE_len hone
              have htl := compE_len htwo
              refine (applyT_ac one (by omega) hoB t (by omega) _).to ?_
              simp only [push_cast, Nat.reduceAdd, Nat.reduceSub, Nat.reduceMul, Nat.reduceLT, Nat.reduceLeDiff, Nat.reduceEqDiff, Int.reduceToNat, ↓reduceIte, hX1]
              refine (applyT_ac two (by omega) htB t (by omega) _).to ?_
              simp only [push_cast, Nat.reduceAdd, Nat.reduceSub, Nat.reduceMul, Nat.reduceLT, Nat.reduceLeDiff, Nat.reduceEqDiff, Int.reduceToNat, ↓reduceIte, hX2, decide_true]
              refine (equalR_ac X X (by omega) (by omega) _).to ?_
              rcases hl with rfl | rfl
              · simp only [push_cast, Nat.reduceAdd, Nat.reduceSub, Nat.reduceMul, Nat.reduceLT, Nat.reduceLeDiff, Nat.reduceEqDiff, Int.reduceToNat, ↓reduceIte, decide_true]
                refine (alive_ac hit _).to ?_
                simp only [push_cast, Nat.reduceAdd, Nat.reduceSub, Nat.reduceMul, Nat.reduceLT, Nat.reduceLeDiff, Nat.reduceEqDiff, Int.reduceToNat, ↓reduceIte]
              · simp only [push_cast, Nat.reduceAdd, Nat.reduceSub, Nat.reduceMul, Nat.reduceLT, Nat.reduceLeDiff, Nat.reduceEqDiff, Int.reduceToNat, ↓reduceIte, decide_true]
                refine cI (fun h => absurd h (by decide)) (fun _ => ?_)
                refine (alive_ac hit _).to ?_
                simp only [push_cast, Nat.reduceAdd, Nat.reduceSub, Nat.reduceMul, Nat.reduceLT, Nat.reduceLeDiff, Nat.reduceEqDiff, Int.reduceToNat, ↓reduceIte]
            · refine (alive_ac hit _).to ?_
              simp only [push_cast, Nat.reduceAdd, Nat.reduceSub, Nat.reduceMul, Nat.reduceLT, Nat.reduceLeDiff, Nat.reduceEqDiff, Int.reduceToNat, ↓reduceIte]
          · refine (alive_ac hit _).to ?_
            simp only [push_cast, Nat.reduceAdd, Nat.reduceSub, Nat.reduceMul, Nat.reduceLT, Nat.reduceLeDiff, Nat.reduceEqDiff, Int.reduceToNat, ↓reduceIte]
        · refine (alive_ac hit _).to ?_
          simp only [push_cast, Nat.reduceAdd, Nat.reduceSub, Nat.reduceMul, Nat.reduceLT, Nat.reduceLeDiff, Nat.reduceEqDiff, Int.reduceToNat, ↓reduceIte]
    · refine (alive_ac hit _).to ?_
      simp only [push_cast, Nat.reduceAdd, Nat.reduceSub, Nat.reduceMul, Nat.reduceLT, Nat.reduceLeDiff, Nat.reduceEqDiff, Int.reduceToNat, ↓reduceIte]
  · refine (alive_ac hit _).to ?_
    simp only [push_cast, Nat.reduceAdd, Nat.reduceSub, Nat.reduceMul, Nat.reduceLT, Nat.reduceLeDiff, Nat.reduceEqDiff, Int.reduceToNat, ↓reduceIte]
end Ab
set_option maxRecDepth 10000
namespace Go.Proofs.YtakpnikkcinckaaDoor
open Go Ab
namespace nsc
theorem own : ownKnob Tryd.prog.godebug = none := by kernel_rfl
theorem laid : laidOutB Tryd.prog = true := by kernel_rfl
theorem readable : ∀ t, t ∈ Tryd.f9.params.toList → Tryd.prog.readableRec t = true ∧ t < Tryd.prog.types.size := by
  rw [Tryd.params9]; intro t ht
  simp only [List.mem_cons, List.not_mem_nil, or_false] at ht
  rcases ht with rfl | rfl <;> exact ⟨by kernel_rfl, of_decide_eq_true (by kernel_rfl)⟩
theorem closed : closedK Tryd.prog [76, 52, 57, 9, 24, 4, 22] = true := by kernel_rfl
theorem contract (H : Type) (enc : TypeId × Value → H) (W : World) (base : Nat) (args : Array Value) (ds gs : List (DataW H)) (before : List MemPlace)
    (hval : ∀ (j : Nat) t v, Tryd.f9.params[j]? = some t → args[j]? = some v → Value.okWide Tryd.prog W .any base t v)
    (hW : DataW.Whole enc Tryd.prog Tryd.f9.params.toList Rows.termCompositionSpec.vars false W args.toList ds gs before) (hk : Rows.uptoSmall H (ds ++ gs) = true) (hl : laidMetH Tryd.prog Rows.termCompositionUptoRow.laid W) :
    Calls Tryd.prog 9 args W fun e W' => ∃ v, e = .returned v ∧ Rows.termCompositionSpec.post enc Tryd.prog Tryd.f9 false true false false W args v W' := by
  have hW' := hW
  obtain ⟨p, q, hA0, hV, rfl, hfz, hnd⟩ := hW
  have hA : DataW.TrodAll enc Tryd.prog W 0 (fun _ => true) true Tryd.f9.params.toList args.toList ds p := hA0
  rw [Tryd.params9] at hA hval
  obtain ⟨v0, vs0, d0, ds0, p0, q0, hargs, rfl, rfl, h0, r0⟩ := ChangeShapes.trodAll_cons hA
  obtain ⟨v1, vs1, d1, ds1, p1, q1, rfl, rfl, rfl, h1, r1⟩ := ChangeShapes.trodAll_cons r0
  obtain ⟨rfl, rfl, rfl⟩ := ChangeShapes.trodAll_nil r1
  obtain rfl : args = #[v0, v1] := by cases args; simp_all
  have hg : gs = [] := by cases gs with | nil => rfl | cons _ _ => exact hV.elim
  subst hg
  have hb : Rows.uptoBulk d0 + Rows.uptoBulk d1 ≤ 1048576 := by
    have := of_decide_eq_true hk
    simp only [List.cons_append, List.nil_append, List.append_nil, Rows.uptoBulkAll] at this
    omega
  obtain ⟨n0, a0, e0, x0⟩ := arg_array closed (by decide) Tryd.underlying76 (hval 0 _ v0 rfl rfl) h0
  obtain ⟨n1, a1, e1, x1⟩ := arg_struct closed (by decide) Tryd.underlying24 (hval 1 _ v1 rfl rfl) h1
  obtain ⟨a, b, c, f0, bb⟩ := b3_form n0 d0 a0 e0
  obtain ⟨t, f1, b1⟩ := term_form n1 d1 a1 e1
  obtain ⟨l1, m1⟩ := bb a (.inl rfl)
  obtain ⟨l2, m2⟩ := bb b (.inr (.inl rfl))
  obtain ⟨l3, m3⟩ := bb c (.inr (.inr rfl))
  rw [f0] at x0; rw [f1] at x1
  have hc := law_calls (args := #[v0, v1]) (avs := [.agg [.sl .none (encL encBd a), .sl .none (encL encBd b), .sl .none (encL encBd c)], encT t]) (W := W) (composition_ac (fun i H hi => itoa_ac i H (by omega)) a b c t (by omega) (by omega) (by omega) (fun x hx => by have := m1 x hx; omega) (fun x hx => by have := m2 x hx; omega) (fun x hx => by have := m3 x hx; omega) (by omega) []) (tabW_of hl) rfl (fun i hi hi' => by
    match i, hi with
    | 0, _ => exact x0
    | 1, _ => exact x1)
  refine hc.mono fun e W' ⟨he, hbl⟩ => ?_
  subst he
  exact ⟨_, rfl, post_law rfl ⟨rfl, rfl, rfl⟩ hW' hbl rfl Tryd.underlying4 laid readable⟩
noncomputable def laidWorld (os : Os) : World := { World.holding Tryd.prog os ⟨#[], #[], []⟩ with heap := ((((World.holding Tryd.prog os ⟨#[], #[], []⟩).heap).modify 2 (fun | .cells _ t fz => .cells #[.int .u8 0, .int .u8 1, .int .u8 28, .int .u8 2, .int .u8 29, .int .u8 14, .int .u8 24, .int .u8 3, .int .u8 30, .int .u8 22, .int .u8 20, .int .u8 15, .int .u8 25, .int .u8 17, .int .u8 4, .int .u8 8, .int .u8 31, .int .u8 27, .int .u8 13, .int .u8 23, .int .u8 21, .int .u8 19, .int .u8 16, .int .u8 7, .int .u8 26, .int .u8 12, .int .u8 18, .int .u8 6, .int .u8 11, .int .u8 5, .int .u8 10, .int .u8 9] t fz | o => o)).modify 3 (fun | .cells _ t fz => .cells #[.int .u8 0, .int .u8 1, .int .u8 56, .int .u8 2, .int .u8 57, .int .u8 49, .int .u8 28, .int .u8 3, .int .u8 61, .int .u8 58, .int .u8 42, .int .u8 50, .int .u8 38, .int .u8 29, .int .u8 17, .int .u8 4, .int .u8 62, .int .u8 47, .int .u8 59, .int .u8 36, .int .u8 45, .int .u8 43, .int .u8 51, .int .u8 22, .int .u8 53, .int .u8 39, .int .u8 33, .int .u8 30, .int .u8 24, .int .u8 18, .int .u8 12, .int .u8 5, .int .u8 63, .int .u8 55, .int .u8 48, .int .u8 27, .int .u8 60, .int .u8 41, .int .u8 37, .int .u8 16, .int .u8 46, .int .u8 35, .int .u8 44, .int .u8 21, .int .u8 52, .int .u8 32, .int .u8 23, .int .u8 11, .int .u8 54, .int .u8 26, .int .u8 40, .int .u8 15, .int .u8 34, .int .u8 20, .int .u8 31, .int .u8 10, .int .u8 25, .int .u8 14, .int .u8 19, .int .u8 9, .int .u8 13, .int .u8 8, .int .u8 7, .int .u8 6] t fz | o => o)).modify 1 (fun | .cells _ t fz => .cells #[.int .u64 1, .int .u64 10, .int .u64 100, .int .u64 1000, .int .u64 10000, .int .u64 100000, .int .u64 1000000, .int .u64 10000000, .int .u64 100000000, .int .u64 1000000000, .int .u64 10000000000, .int .u64 100000000000, .int .u64 1000000000000, .int .u64 10000000000000, .int .u64 100000000000000, .int .u64 1000000000000000, .int .u64 10000000000000000, .int .u64 100000000000000000, .int .u64 1000000000000000000, .int .u64 10000000000000000000] t fz | o => o) }
set_option maxRecDepth 100000 in
theorem laid_met (os : Os) : laidMet Tryd.prog Rows.termCompositionUptoRow.laid ((laidWorld os).forCall (fun _ _ => 0) ⟨#[], #[.agg #[.slice none 0 0, .slice none 0 0, .slice none 0 0], .agg #[.string ⟨#[]⟩, .bool false, .slice none 0 0]], []⟩).memory :=
  laidMet_of_run' 80 (by kernel_rfl) (by kernel_rfl)
set_option maxRecDepth 100000 in
theorem reads (os : Os) {H : Type} (enc : TypeId × Value → H) : ∃ places, DataW.whole enc Tryd.prog ((laidWorld os).forCall (fun _ _ => 0) ⟨#[], #[.agg #[.slice none 0 0, .slice none 0 0, .slice none 0 0], .agg #[.string ⟨#[]⟩, .bool false, .slice none 0 0]], []⟩).memory Tryd.f9.params.toList (Rows.OpenSpec.upto Rows.termCompositionSpec).vars false #[.agg #[.slice none 0 0, .slice none 0 0, .slice none 0 0], .agg #[.string ⟨#[]⟩, .bool false, .slice none 0 0]].toList 8 = some ([.agg [.nil, .nil, .nil], .agg [.lit (.string []), .lit (.bool false), .nil]], [], places) := ⟨[], by kernel_rfl⟩
set_option maxRecDepth 100000 in
theorem lifted (os : Os) (started : os.Started) (H : Type) (enc : TypeId × Value → H) (F : Stop.Interp) :
    ReturnsInHanded {} Tryd.checked os 9 .any ((Rows.OpenSpec.upto Rows.termCompositionSpec).preRow enc Tryd.prog Tryd.f9 Rows.termCompositionUptoRow.domain false Rows.termCompositionUptoRow.laid) (((Rows.OpenSpec.upto Rows.termCompositionSpec).at F).post enc Tryd.prog Tryd.f9 false true false false) := by
  obtain ⟨places, hx⟩ := reads os enc
  refine returnsInHanded_of_row (C := Tryd.checked) (s := Rows.OpenSpec.upto Rows.termCompositionSpec) own started (by kernel_rfl) Tryd.func9
    (witness_row_at (enc := enc) (C := Tryd.checked) false (laidWorld os) #[.agg #[.slice none 0 0, .slice none 0 0, .slice none 0 0], .agg #[.string ⟨#[]⟩, .bool false, .slice none 0 0]] rfl (by kernel_rfl) (by kernel_rfl) (by kernel_rfl)
      (OpenSpec.preRow_of_cond 8 hx (by kernel_rfl) (fun k hk => by cases hk; kernel_rfl) (by kernel_rfl) (laid_met os))) ?_
  intro W base args ds gs before hval hW _ hk _ hl _ _
  exact contract H enc W base args ds gs before hval hW (hk _ rfl) hl
theorem over : Rows.TermCompositionUptoSaid :=
  OpenClaim.holds_of_cond 9 Tryd.f9 rfl rfl rfl rfl rfl rfl rfl ⟨rfl, rfl, rfl, rfl, rfl⟩ rfl rfl rfl rfl rfl (by kernel_rfl) Tryd.func9 (by kernel_rfl)
    (of_decide_eq_true (by kernel_rfl)) (by unfold Func.isWrapper; first | (rw [if_pos (by decide +kernel)]; kernel_rfl) | (rw [if_neg (by decide +kernel)]; exact ⟨rfl, rfl⟩))
    (fun os started H enc _ F => by rw [OpenClaim.pre_eq_preRow]; exact lifted os started H enc F)
theorem plain (f : FuncId) (fn : Func) (hf : Tryd.pinned.checked.prog.funcNamed "dwindle/dwindlelaw01.TermComposition" = some f) (hfn : Tryd.pinned.checked.prog.funcs[f]? = some fn) :
    false = Tryd.pinned.checked.prog.looks [] ∧ ∀ (j : Nat) t, fn.params[j]? = some t → Tryd.pinned.checked.prog.wantsStandIn t = false := by
  obtain rfl : f = 9 := Option.some.inj ((show Tryd.prog.funcNamed "dwindle/dwindlelaw01.TermComposition" = some 9 by kernel_rfl).symm.trans hf) |>.symm
  obtain rfl : fn = Tryd.f9 := (Option.some.inj (Tryd.func9.symm.trans hfn)).symm
  refine ⟨by kernel_rfl, fun j t ht => ?_⟩
  rw [Tryd.params9] at ht
  have hm := Array.mem_of_getElem? ht
  simp only [List.mem_toArray, List.mem_cons, List.not_mem_nil, or_false] at hm
  rcases hm with rfl | rfl
  · exact (show Tryd.prog.wantsStandIn 76 = false by kernel_rfl)
  · exact (show Tryd.prog.wantsStandIn 24 = false by kernel_rfl)
end nsc
theorem termComposition_card : Rows.TermCompositionUptoCardSaid :=
  Claim7.holds_tied_plain_at .later [] _ _ _ _ nsc.over (fun _ h => by cases h) (by kernel_rfl) (fun _ h => by cases h) termCompositionUpto_row_tie rfl ⟨rfl, rfl⟩ (by kernel_rfl) rfl nsc.plain (by kernel_rfl)
end Go.Proofs.YtakpnikkcinckaaDoor
