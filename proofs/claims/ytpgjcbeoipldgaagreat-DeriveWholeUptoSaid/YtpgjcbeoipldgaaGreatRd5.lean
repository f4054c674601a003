/- Part 5 of 5 of a proof. The law DeriveWhole of chapter 05 returns true at every input up to the bound: a whole graph holds every derivation, and none is longer than the longest one. -/
import Derived.Test.YtpgjcbeoipldgaaGreatRd4
import Derived.Laws.MakeOwn
set_option linter.unusedVariables false
set_option linter.unusedSimpArgs false
set_option maxRecDepth 10000
namespace Ab
open Go Go.Proofs
section
variable {P : Program} {ro : Option Nat} {H0 : List AObj} {Q : Exit → ASt → Prop} {st : ASt} {K : AV → List AObj → Prop} {dst : Option Tmp} {ty : TypeId} {pos : String} {after : Array Edge} {guard : Option (Nat × Bool)}
inductive ToA (m : Nat) (h : List AObj) : AV → AV → Prop
  | fgt {r v : AV} (hf : fgtW r v) : ToA m h r v
  | rowA (k e sz : Nat) {xs cs cs' : List AV} {b b' : AV} (hk : h[k]? = some (grO e sz xs)) (hl : (flat xs).length = xs.length * sz) (hm : m ≤ k) (hsc : ScopedL m (flat xs)) (hc : fgtL cs cs') (hb : fgtW b b') : ToA m h (.tup [.agg (grS k xs :: cs), b]) (.tup [.agg (.sl .none xs :: cs'), b'])
def finHH (H : List AObj) (m : Nat) (v : AV) (H1 h : List AObj) (r : AV) : Prop := OutOk H h m ∧ ToA m h r v ∧ Scoped m v ∧ h.take m = H1
def finVH (P : Program) (H : List AObj) (m : Nat) (v : AV) (H1 : List AObj) (rs : List ResultVar) : Exit → ASt → Prop
  | .normal, st => finR P rs st (finHH H m v H1 st.heap)
  | .ret, st => finR P rs st (finHH H m v H1 st.heap)
  | _, _ => False
theorem ACall_VHA {f : Nat} {fn : Func} {c : Code} {args : List AV} {H H1 : List AObj} {v : AV} (m n : Nat) (rs : List ResultVar) (hf : P.funcs[f]? = some fn) (hb : fn.body = some c) (hn : fn.ntmps - args.length = n) (hr : fn.results = rs.toArray)
    (h : AW P none H c (finVH P H m v H1 rs) ⟨args ++ List.replicate n (.lit undef), H⟩) : ACall P f args H (fun r H' => r = v ∧ H' = H1) := by
  subst hn
  intro C vs hg hH hsz hv
  refine ACall_of_AW (P := P) hf hb ?_ C vs hg hH hsz hv (R := fun r H' => r = v ∧ H' = H1)
  refine AW_mono h ?_
  intro e st' hh
  have key : finR P rs st' (finHH H m v H1 st'.heap) → ∃ r, ResOk P fn st' r ∧ finHH H m v H1 st'.heap r := by
    intro hh
    cases rs with
    | nil => exact ⟨.tup [], by unfold ResOk; rw [hr], hh⟩
    | cons x rs =>
      cases rs with
      | nil =>
        refine ⟨_, ?_, hh.2⟩
        have := resPre_spec hh.1
        unfold ResOk; rw [hr]
        cases x with
        | tmp t => rfl
        | cell a t => exact this
      | cons y l =>
        refine ⟨_, ?_, hh.2⟩
        unfold ResOk; rw [hr]
        have h2 := resPres_spec hh.1
        cases x <;> exact ⟨_, rfl, h2⟩
  have fin : (∃ r, ResOk P fn st' r ∧ finHH H m v H1 st'.heap r) → ∀ C1 a, Good C1 → C1.H = st'.heap → SRel C1 st' a → ∃ u r C', (results fn a.tmps).run P C1.w = .ok u C1.w ∧ C'.w = C1.w ∧ Good C' ∧ (∀ C0, Ext C0 C1 → C0.H = H → Good C0 → Ext C0 C') ∧ VRel C' r u ∧ (r = v ∧ C'.H = H1) := by
    rintro ⟨r, hr, ho, hto, hsc, ht⟩ C1 a hg1 hH1 hs1
    obtain ⟨u, hrun, hrel⟩ := results_run hr hg1 hH1 hs1
    have ho' : OutOk C.H C1.H m := by rw [hH, hH1]; exact ho
    have hgt : Good (C1.take m) := Good.take hg hg1 ho'
    have hht : (C1.take m).H = H1 := by show C1.H.take m = H1; rw [hH1]; exact ht
    cases hto with
    | fgt hf => exact ⟨u, v, C1.take m, hrun, rfl, hgt, fun C0 hx h0 _ => hx.take (by rw [h0]; exact ho.2.1), (fgtW_spec _ _ hf _ _ hrel).take hsc, rfl, hht⟩
    | @rowA k e sz xs cs cs' b b' hk hl hm hs2 hcc hbb =>
      cases hrel with
      | tup _ us hsz hrel =>
        have h0 := hrel 0 (by simp)
        have h1 := hrel 1 (by simp)
        obtain ⟨vs, hxx, hvs, hvr⟩ := h0.agg_inv
        have hv0 := hvr 0 (by simp)
        obtain ⟨C', e1, e2, e3, e4, e5⟩ := gr_frz hg1 hv0 (by rw [hH1]; exact hk) hl hm hgt hs2
        have hsb : Scoped m b' := by simp only [Scoped, ScopedL] at hsc; exact hsc.2.1
        have hsc' : ScopedL m cs' := by simp only [Scoped, ScopedL] at hsc; exact hsc.1.2
        obtain ⟨q1, q2⟩ := fgtL_spec _ _ hcc
        refine ⟨_, .tup [.agg (.sl .none xs :: cs'), b'], C', hrun, e1, e3, fun C0 hx h0 _ => (hx.take (by rw [h0]; exact ho.2.1)).trans e4, .tup _ us hsz (fun i hi => ?_), rfl, e2.trans hht⟩
        match i, hi with
        | 0, _ =>
          simp only [List.getElem_cons_zero]
          rw [hxx]
          refine .agg _ vs (by simp only [List.length_cons] at hvs ⊢; omega) (fun j hj => ?_)
          match j, hj with
          | 0, _ => exact e5
          | j + 1, hj =>
            simp only [List.length_cons] at hj
            have hj1 : j < cs.length := by omega
            have hj2 : j < cs'.length := by omega
            have h3 := hvr (j + 1) (by simp only [List.length_cons]; omega)
            exact ((q2 j hj1 hj2 _ _ h3).take (ScopedL_iff.1 hsc' _ (List.getElem_mem hj2))).ext e4
        | 1, _ => exact ((fgtW_spec _ _ hbb _ _ h1).take hsb).ext e4
  cases e <;> first
    | exact fin (key hh)
    | exact hh.elim
end
section rules
variable {P : Program} {st : ASt}
theorem finVH_n {H H1 : List AObj} {m : Nat} {v : AV} {rs : List ResultVar} : finVH P H m v H1 rs .normal st = finR P rs st (finHH H m v H1 st.heap) := (rfl)
theorem finVH_r {H H1 : List AObj} {m : Nat} {v : AV} {rs : List ResultVar} : finVH P H m v H1 rs .ret st = finR P rs st (finHH H m v H1 st.heap) := (rfl)
end rules
attribute [push_cast] finVH_n finVH_r finHH
end Ab
set_option maxRecDepth 10000
namespace Ab
open Go Go.Proofs
section
variable {P : Program} {ro : Option Nat} {st : ASt} {K : AV → List AObj → Prop} {dst : Option Tmp} {ty : TypeId} {pos : String} {after : Array Edge} {guard : Option (Nat × Bool)}
theorem made_one (z : Value) (n : Nat) (c : Array Value) (h : c.toList = [z]) : (madeCells c n).toList = List.replicate n z := by
  have hc : c = #[z] := by
    apply Array.ext'
    exact h
  subst hc
  apply List.ext_getElem
  · simp [madeCells]
  · intro i h1 h2
    simp [madeCells, Nat.mod_one]
theorem AOp_make1 {t e by_ : Nat} {l c : Operand} (n : Nat) (kl kc : IntKind) (z : Value) (hl : st.opd l = .int kl (n : Nat)) (hc : st.opd c = .int kc (n : Nat)) (ht : SliceT P t e) (hsz : SzOf P e 1) (hby : BytesOf P e by_) (hz : ZeroOf P e [z]) (hzc : (ofVal z).isCell = true) (hb : by_ ≤ 100) (hn : n ≤ 1099511627776)
    (k : K (.arr st.heap.length 0 n) (st.heap ++ [.cells (List.replicate n (ofVal z))])) : AOp P ro ⟨dst, .makeSlice t l c, ty, pos, after, guard⟩ K st :=
  AOp_value (fun ρ => semAt_of (fun c => by simp) ro ρ) fun C a hg hH hs => by
    have e1 := hs.opd l
    have e2 := hs.opd c
    rw [hl] at e1
    rw [hc] at e2
    have e1 := e1.int_inv
    have e2 := e2.int_inv
    obtain ⟨i, z', hi, i1, i2, i3, i4⟩ := info_of hsz hby hz
    have hbb : by_ * n ≤ 100 * 1099511627776 := Nat.mul_le_mul hb hn
    have hb2 : (by_ : Int) * (n : Int) ≤ 281474976710656 := by
      have : ((by_ * n : Nat) : Int) ≤ 281474976710656 := by omega
      rwa [Int.natCast_mul] at this
    have hrun := run_make (P := P) C.w t e i z' ht hi i3 kl kc (n : Nat) (n : Nat) (by omega) (Int.le_refl _) (by rw [i2]; exact hb2) (by omega)
    rw [i1, Nat.mul_one, Int.toNat_natCast] at hrun
    obtain ⟨cs, hcs⟩ : ∃ cs, cs = madeCells z'.cells n := ⟨_, rfl⟩
    have hcl : cs.toList = List.replicate n z := by rw [hcs]; exact made_one z n _ i4
    have hcz : cs.size = n := by have := congrArg List.length hcl; simpa using this
    rw [← hcs] at hrun
    have hcg : ∀ j (h : j < cs.size), cs[j] = z := fun j h => by
      have h1 : cs.toList[j]'(by simpa using h) = z := by simp [hcl]
      simpa using h1
    obtain ⟨hg', he⟩ := step_new hg (.cells (List.replicate n (ofVal z))) (.cells cs e) (C.w.alloc (.cells cs e)) rfl ⟨rfl, rfl, rfl, by first | exact Nat.le_refl _ | exact Nat.le_add_right _ _⟩ (by simp [AObj.kind]) rfl (fun he => by
      refine ⟨cs, e, ?_, ?_, ?_, ?_⟩
      · simp only [if_true]; exact heap_alloc_new _ _
      · simp [hcz]
      · simp; exact hg.fresh _ (Nat.le_refl _)
      · intro j hj hj'
        rw [hcg j hj']
        have := VRel.ofVal (C := { S := C.S, μ := fun k => if k = C.H.length then C.w.heap.size else C.μ k, H := C.H ++ [AObj.cells (List.replicate n (ofVal z))], w := C.w.alloc (.cells cs e) }) z
        refine ⟨by simpa using this, ?_⟩
        simpa using hzc)
    refine ⟨_, .slice (some ⟨C.w.heap.size, 0, none⟩) n n, .arr st.heap.length 0 n, ?_, hg', he, ?_, ?_⟩
    · simp [execOp, e1, e2, hrun]
    · have := VRel.arr (C := { S := C.S, μ := fun k => if k = C.H.length then C.w.heap.size else C.μ k, H := C.H ++ [AObj.cells (List.replicate n (ofVal z))], w := C.w.alloc (.cells cs e) }) st.heap.length 0 n n ⟨.cells (List.replicate n (ofVal z)), by simp [hH], rfl⟩ (Nat.le_refl _)
      rw [← hH] at this ⊢
      simpa using this
    · rw [← hH] at k ⊢; exact k
end
end Ab
set_option maxRecDepth 10000
namespace Ab
open Go Go.Proofs
def keyP : Term → List UInt8
  | .mk n u xs => n ++ ((if u then 63 else 40) :: ((xs.map keyP).flatten ++ [41]))
theorem keyP_mk (n : List UInt8) (u : Bool) (xs : List Term) : keyP (.mk n u xs) = n ++ ((if u then 63 else 40) :: (xs.flatMap keyP ++ [41])) := by simp [keyP, List.flatMap]
def markB (c : UInt8) : Bool := decide (c = 40) || decide (c = 41) || decide (c = 63)
theorem split_mark : ∀ (n m : List UInt8) (c d : UInt8) (a b : List UInt8), (∀ x, x ∈ n → markB x = false) → (∀ x, x ∈ m → markB x = false) → markB c = true → markB d = true → n ++ c :: a = m ++ d :: b → n = m ∧ c = d ∧ a = b
  | [], [], c, d, a, b, _, _, _, _, h => by simpa using h
  | [], y :: m, c, d, a, b, _, h2, hc, _, h => by
    simp only [List.nil_append, List.cons_append, List.cons.injEq] at h
    have := h2 y (by simp)
    rw [← h.1, hc] at this; cases this
  | x :: n, [], c, d, a, b, h1, _, _, hd, h => by
    simp only [List.nil_append, List.cons_append, List.cons.injEq] at h
    have := h1 x (by simp)
    rw [h.1, hd] at this; cases this
  | x :: n, y :: m, c, d, a, b, h1, h2, hc, hd, h => by
    simp only [List.cons_append, List.cons.injEq] at h
    obtain ⟨e1, e2, e3⟩ := split_mark n m c d a b (fun z hz => h1 z (by simp [hz])) (fun z hz => h2 z (by simp [hz])) hc hd h.2
    exact ⟨by rw [h.1, e1], e2, e3⟩
theorem inName_markF : ∀ i : Fin 256, inNameB (UInt8.ofNat i.1) = true → markB (UInt8.ofNat i.1) = false := by decide +kernel
theorem inName_mark (c : UInt8) (h : inNameB c = true) : markB c = false := by
  have := inName_markF ⟨c.toNat, c.toNat_lt⟩
  simp only [UInt8.ofNat_toNat] at this
  exact this h
theorem name_mark {n : List UInt8} {b : Bool} (h : isNameP n b = true) : n ≠ [] ∧ ∀ c, c ∈ n → markB c = false := by
  unfold isNameP at h
  simp only [Bool.and_eq_true, decide_eq_true_eq, Bool.not_eq_true', List.any_eq_false, Bool.not_eq_true'] at h
  obtain ⟨_, h1, h2⟩ := h
  cases b with
  | false =>
    simp only [Bool.false_eq_true, if_false] at h1 h2
    exact ⟨h1, fun c hc => inName_mark c (by simpa using h2 c hc)⟩
  | true =>
    simp only [if_true] at h1 h2
    unfold trimSuffix at h1 h2
    by_cases hc : ([35] : List UInt8).length ≤ n.length ∧ n.drop (n.length - ([35] : List UInt8).length) = [35]
    · rw [if_pos hc] at h1 h2
      have e := List.take_append_drop (n.length - ([35] : List UInt8).length) n
      rw [hc.2] at e
      refine ⟨fun e0 => by rw [e0] at hc; simp at hc, fun c hcm => ?_⟩
      rw [← e, List.mem_append] at hcm
      rcases hcm with hcm | hcm
      · exact inName_mark c (by simpa using h2 c hcm)
      · rw [List.mem_singleton] at hcm; subst hcm; rfl
    · rw [if_neg hc] at h1 h2
      exact ⟨h1, fun c hc => inName_mark c (by simpa using h2 c hc)⟩
theorem key_inj (t : Term) : ∀ u r r', formedP t = true → formedP u = true → keyP t ++ r = keyP u ++ r' → t = u ∧ r = r' := by
  induction t using Term.ind with | _ n v xs ih
  intro u r r' ht hu h
  obtain ⟨m, w, ys⟩ := u
  have nm : ∀ {n : List UInt8} {v : Bool} {xs : List Term}, formedP (.mk n v xs) = true → (n ≠ [] ∧ ∀ c, c ∈ n → markB c = false) ∧ ∀ x, x ∈ xs → formedP x = true := by
    intro n v xs h
    rw [formedP_mk] at h
    cases v with
    | true =>
      simp only [if_true, Bool.and_eq_true, decide_eq_true_eq] at h
      have := List.eq_nil_of_length_eq_zero h.1
      subst this
      exact ⟨name_mark h.2, fun x hx => by simp at hx⟩
    | false =>
      simp only [Bool.false_eq_true, if_false, Bool.and_eq_true, List.all_eq_true] at h
      exact ⟨name_mark h.1.2, h.2⟩
  obtain ⟨⟨_, a2⟩, a3⟩ := nm ht
  obtain ⟨⟨_, b2⟩, b3⟩ := nm hu
  rw [keyP_mk, keyP_mk, List.append_assoc, List.append_assoc, List.cons_append, List.cons_append] at h
  obtain ⟨e1, e2, e3⟩ := split_mark _ _ _ _ _ _ a2 b2 (by cases v <;> rfl) (by cases w <;> rfl) h
  have hv : v = w := by cases v <;> cases w <;> simp_all
  have key : ∀ xs' ys' : List Term, (∀ x, x ∈ xs' → x ∈ xs) → (∀ y, y ∈ ys' → formedP y = true) → xs'.flatMap keyP ++ (41 :: r) = ys'.flatMap keyP ++ (41 :: r') → xs' = ys' ∧ r = r' := by
    have hd : ∀ (y : Term) (ys' : List Term) (s s' : List UInt8), formedP y = true → ¬ (41 :: s = keyP y ++ s') := by
      intro y ys' s s' hy e
      obtain ⟨k, z, zs⟩ := y
      obtain ⟨⟨c1, c2⟩, _⟩ := nm hy
      cases k with
      | nil => exact c1 rfl
      | cons c k =>
        rw [keyP_mk] at e
        simp only [List.cons_append, List.cons.injEq] at e
        have := c2 c (by simp)
        rw [← e.1] at this
        cases this
    intro xs'
    induction xs' with
    | nil =>
      intro ys' _ hy h
      cases ys' with
      | nil => simpa using h
      | cons y ys' =>
        rw [List.flatMap_cons, List.append_assoc] at h
        exact absurd h (hd y ys' _ _ (hy y (by simp)))
    | cons x xs' ih2 =>
      intro ys' hx hy h
      cases ys' with
      | nil =>
        rw [List.flatMap_cons, List.append_assoc] at h
        exact absurd h.symm (hd x xs' _ _ (a3 x (hx x (by simp))))
      | cons y ys' =>
        rw [List.flatMap_cons, List.append_assoc, List.flatMap_cons, List.append_assoc] at h
        obtain ⟨g1, g2⟩ := ih x (hx x (by simp)) y _ _ (a3 x (hx x (by simp))) (hy y (by simp)) h
        obtain ⟨g3, g4⟩ := ih2 ys' (fun z hz => hx z (by simp [hz])) (fun z hz => hy z (by simp [hz])) g2
        exact ⟨by rw [g1, g3], g4⟩
  have e4 : xs.flatMap keyP ++ (41 :: r) = ys.flatMap keyP ++ (41 :: r') := by simpa using e3
  obtain ⟨f1, f2⟩ := key xs ys (fun x h => h) b3 e4
  exact ⟨by rw [e1, hv, f1], f2⟩
theorem keyP_inj {t u : Term} (ht : formedP t = true) (hu : formedP u = true) (h : keyP t = keyP u) : t = u := (key_inj t u [] [] ht hu (by rw [h])).1
end Ab
set_option maxRecDepth 10000
namespace Ab
open Go Go.Proofs
theorem keyP_len (t : Term) : (keyP t).length ≤ 2 * t.bulk := by
  induction t using Term.ind with | _ n u xs ih
  rw [keyP_mk, Term.bulk_mk]
  have : ∀ ys : List Term, (∀ y, y ∈ ys → y ∈ xs) → (ys.flatMap keyP).length ≤ 2 * (ys.map Term.bulk).sum := by
    intro ys
    induction ys with
    | nil => intro _; simp
    | cons y ys ih2 =>
      intro hy
      have h1 := ih y (hy y (by simp))
      have h2 := ih2 (fun z hz => hy z (by simp [hz]))
      simp only [List.flatMap_cons, List.length_append, List.map_cons, List.sum_cons]
      omega
  have := this xs (fun y h => h)
  simp only [List.length_append, List.length_cons, List.length_nil]
  omega
theorem key_ac (t : Term) : t.bulk ≤ 1099511627775 → ∀ H, ACall Tryz.prog 152 [encT t] H (fun r H' => r = .str (keyP t) ∧ H' = H) := by
  induction t using Term.ind with | _ n u xs ih
  intro hb H
  have hl := Term.len_le (n := n) (v := u) (xs := xs)
  obtain ⟨c, hc⟩ : ∃ c : UInt8, c = if u then 63 else 40 := ⟨_, rfl⟩
  rw [keyP_mk, ← hc]
  refine ACall_V (H.length) 28 [.tmp 2] Tryz.func152 rfl rfl rfl ?_
  simp only [push_cast, Nat.reduceAdd, Nat.reduceSub, Nat.reduceMul, Nat.reduceLT, Nat.reduceLeDiff, Nat.reduceEqDiff, Int.reduceToNat, ↓reduceIte, Term.name, Term.var, Term.args]
  have hfin : ∀ i, i ≤ xs.length → ((xs.take i).flatMap keyP).length ≤ 2 * 1099511627775 := by
    intro i hi
    have h1 := keyP_len (.mk n u (xs.take i))
    rw [keyP_mk] at h1
    simp only [List.length_append, List.length_cons] at h1
    have h2 := take_sum_le Term.bulk xs i
    rw [Term.bulk_mk] at hb
    rw [Term.bulk_mk] at h1
    omega
  refine cI (fun h => ?_) (fun h => ?_)
  refine AOp_convert_str [63] .none (by simp only [push_cast, encB, List.map_cons, List.map_nil]; rfl) (by simp) sl175 (by kernel_rfl) (by kernel_rfl) ?_
  have hc63 : c = 63 := by rw [hc, if_pos h]
  rw [← hc63]
  rotate_left
  refine AOp_convert_str [40] .none (by simp only [push_cast, encB, List.map_cons, List.map_nil]; rfl) (by simp) sl175 (by kernel_rfl) (by kernel_rfl) ?_
  have hc63 : c = 40 := by rw [hc, if_neg h]
  rw [← hc63]
  all_goals (
    clear hc63 hc
    simp only [push_cast, Nat.reduceAdd, Nat.reduceSub, Nat.reduceMul, Nat.reduceLT, Nat.reduceLeDiff, Nat.reduceEqDiff, Int.reduceToNat, ↓reduceIte]
    have hnl := Term.name_le (n := n) (v := u) (xs := xs)
    refine ⟨by omega, ?_⟩
    refine AW_loopW (maskG 29 [4, 11, 0, 0]) (fun (i : Nat) => [(18, .int .i64 i), (4, .str (n ++ [c] ++ (xs.take i).flatMap keyP))]) (fun i => H ++ [.cells [.str n, .bool u, .sl .none (encTs xs)]]) (fun i => i ≤ xs.length) (fun i => xs.length - i) 0 (Nat.zero_le _) (by simp only [push_cast, Nat.reduceAdd, Nat.reduceSub, Nat.reduceMul, Nat.reduceLT, Nat.reduceLeDiff, Nat.reduceEqDiff, Int.reduceToNat, ↓reduceIte, List.take_zero, List.flatMap_nil, List.append_nil]) (fun i hi => ?_)
    simp only [push_cast, Nat.reduceAdd, Nat.reduceSub, Nat.reduceMul, Nat.reduceLT, Nat.reduceLeDiff, Nat.reduceEqDiff, Int.reduceToNat, ↓reduceIte]
    refine cI (fun h2 => ?_) (fun h2 => ?_)
    · have hil : i < xs.length := by omega
      have hbi := Term.arg_le (n := n) (v := u) (List.getElem_mem hil)
      have hf1 := hfin i (by omega)
      have hf2 := keyP_len (xs[i]'hil)
      have e : (xs.take (i + 1)).flatMap keyP = (xs.take i).flatMap keyP ++ keyP (xs[i]'hil) := by rw [List.take_succ_eq_append_getElem hil, List.flatMap_append]; simp
      refine ⟨hil, ?_⟩
      refine (ih _ (List.getElem_mem hil) (by omega) _).to ?_
      simp only [push_cast, Nat.reduceAdd, Nat.reduceSub, Nat.reduceMul, Nat.reduceLT, Nat.reduceLeDiff, Nat.reduceEqDiff, Int.reduceToNat, ↓reduceIte]
      refine ⟨by first | omega | (simp only [List.length_append, List.length_cons, List.length_nil]; omega), ?_⟩
      repeat' first | refine ⟨by omega, ?_⟩ | refine cI (fun _ => ?_) (fun _ => ?_)
      refine loopW_n (i + 1) (by omega) (by omega) ?_
      rw [e]
      simp only [push_cast, Nat.reduceAdd, Nat.reduceSub, Nat.reduceMul, Nat.reduceLT, Nat.reduceLeDiff, Nat.reduceEqDiff, Int.reduceToNat, ↓reduceIte, List.append_assoc]
    · have hf1 := hfin xs.length (Nat.le_refl _)
      rw [List.take_length] at hf1
      rw [List.take_of_length_le (show xs.length ≤ i by omega)]
      refine ⟨by first | omega | (simp only [List.length_append, List.length_cons, List.length_nil]; omega), ?_⟩
      simp)
end Ab
set_option maxRecDepth 10000
namespace Ab
open Go Go.Proofs
def idxF : Nat → List Term → List (List UInt8 × Int)
  | _, [] => []
  | i, t :: r => (keyP t, (i : Int)) :: idxF (i + 1) r
theorem idxF_snoc : ∀ (ts : List Term) (i : Nat) (u : Term), idxF i (ts ++ [u]) = idxF i ts ++ [(keyP u, ((i + ts.length : Nat) : Int))]
  | [], i, u => by simp [idxF]
  | t :: r, i, u => by
    have := idxF_snoc r (i + 1) u
    simp only [List.cons_append, idxF, this, List.length_cons]
    rw [show i + 1 + r.length = i + (r.length + 1) by omega]
theorem idxF_get (u : Term) (hu : formedP u = true) : ∀ (ts : List Term) (i : Nat), (∀ x, x ∈ ts → formedP x = true) → aget (idxF i ts) (keyP u) = if u ∈ ts then some ((i + ts.idxOf u : Nat) : Int) else none
  | [], i, _ => by simp [idxF, aget]
  | t :: r, i, h => by
    have ih := idxF_get u hu r (i + 1) (fun x hx => h x (by simp [hx]))
    rw [idxF, aget, ih]
    by_cases he : t = u
    · subst he; simp
    · have hk : ¬ keyP t = keyP u := fun e => he (keyP_inj (h t (by simp)) hu e)
      have he' : ¬ u = t := fun e => he e.symm
      rw [if_neg hk]
      by_cases hm : u ∈ r
      · have hx : (t :: r).idxOf u = r.idxOf u + 1 := by
          have hb : (t == u) = false := by simpa using he
          rw [List.idxOf_cons, hb]; rfl
        rw [if_pos hm, if_pos (by simp [hm]), hx]
        congr 2; omega
      · rw [if_neg hm, if_neg (by simp [hm, he'])]
theorem idxF_key : ∀ (ts : List Term) (i : Nat) (p : List UInt8 × Int), p ∈ idxF i ts → ∃ t, t ∈ ts ∧ p.1 = keyP t
  | [], _, _, h => by simp [idxF] at h
  | t :: r, i, p, h => by
    rw [idxF] at h
    rcases List.mem_cons.1 h with rfl | h
    · exact ⟨t, by simp, rfl⟩
    · obtain ⟨x, hx, e⟩ := idxF_key r (i + 1) p h
      exact ⟨x, by simp [hx], e⟩
theorem idxF_set {u : Term} (hu : formedP u = true) {ts : List Term} (h : ∀ x, x ∈ ts → formedP x = true) (hn : u ∉ ts) : aset (idxF 0 ts) (keyP u) (ts.length : Int) = idxF 0 (ts ++ [u]) := by
  rw [idxF_snoc, (aget_none (k := keyP u) (m := idxF 0 ts) (fun p hp => by
    obtain ⟨t, ht, e⟩ := idxF_key ts 0 p hp
    rw [e]
    exact fun e2 => hn (by rw [← keyP_inj (h t ht) hu e2]; exact ht))).2]
  simp
structure Edg where
  fr : Int
  to : Int
  st : Int × List Int
  deriving DecidableEq
@[reducible] def encE (e : Edg) : AV := .agg [.int .i64 e.fr, .int .i64 e.to, .int .i64 e.st.1, .sl .none (encP e.st.2)]
theorem uniE (l : List Edg) : Uni (1 + 1 + 2) (encL encE l) = True := eq_true (uni_encL (enc := encE) (k := 4) (fun _ => rfl) l)
theorem scopedE (n : Nat) (l : List Edg) : ScopedL n (encL encE l) = True := eq_true (scoped_encL (fun x => by simp [Scoped, ScopedL, scoped_encP]) l)
attribute [push_cast] uniE scopedE
def addR (most : Nat) (ts : List Term) (u : Term) : Nat × Bool := if u ∈ ts then (ts.idxOf u, true) else if most ≤ ts.length then (0, false) else (ts.length, true)
def addTs (most : Nat) (ts : List Term) (u : Term) : List Term := if u ∈ ts ∨ most ≤ ts.length then ts else ts ++ [u]
def addW (most : Nat) (ts : List Term) (w : Bool) (u : Term) : Bool := if u ∉ ts ∧ most ≤ ts.length then false else w
@[reducible] def mapT (ts : List Term) : List (AV × AV) := amap AV.str (AV.int .i64) (idxF 0 ts)
@[reducible] def exL (H : List AObj) (c2 c3 : AObj) (most : Nat) (ts : List Term) (el : List Edg) (w : Bool) (X : List AObj) : List AObj :=
  .grow 25 3 (flat (encTs ts)) :: gTok 117 4 (encL encE el) :: c2 :: c3 :: .map ts.length (mapT ts) :: .cells [.gr H.length ts.length, gSl (H.length + 1) (encL encE el), .bool w, .map (H.length + 4), .int .i64 (most : Nat)] :: X
@[reducible] def exHeap (H : List AObj) (c2 c3 : AObj) (most : Nat) (ts : List Term) (el : List Edg) (w : Bool) (X : List AObj) : List AObj := H ++ exL H c2 c3 most ts el w X
theorem outok_ex {H L L' Y : List AObj} {m : Nat} (hl : L.length = L'.length) (hm : m = H.length + L.length) (h : ∀ (i : Nat) (o : AObj), L'[i]? = some o → L[i]? = some o ∨ OScoped m o) : OutOk (H ++ L) (H ++ (L' ++ Y)) m := by
  subst hm
  refine ⟨by simp; omega, by simp, fun k hk => ?_⟩
  rcases Nat.lt_or_ge k H.length with h1 | h1
  · exact .inl ⟨by simp; omega, by rw [List.getElem?_append_left h1, List.getElem?_append_left h1]⟩
  · have hk2 : k - H.length < L'.length := by omega
    have e1 : (H ++ (L' ++ Y))[k]? = some L'[k - H.length] := by
      rw [List.getElem?_append_right h1, List.getElem?_append_left hk2, List.getElem?_eq_getElem hk2]
    rcases h (k - H.length) L'[k - H.length] (List.getElem?_eq_getElem hk2) with h2 | h2
    · exact .inl ⟨by simp; omega, by rw [e1, List.getElem?_append_right h1, h2]⟩
    · exact .inr ⟨_, e1, h2⟩
theorem osc_gx (n : Nat) (k len : Nat) (e : Nat) (el : List Edg) (w : Bool) (id : Nat) (mo : Int) (h1 : k < n) (h2 : e < n) (h3 : id < n) : OScoped n (.cells [.gr k len, gSl e (encL encE el), .bool w, .map id, .int .i64 mo]) := by
  have h4 : Scoped n (gSl e (encL encE el)) := by
    cases el with
    | nil => simp [gSl, encL, Scoped, ScopedL]
    | cons a r => exact ⟨h2, of_eq_true (scopedE n (a :: r))⟩
  simp [OScoped, ScopedL, Scoped, h1, h3, h4]
theorem scIx (n ver : Nat) (ts : List Term) : OScoped n (.map ver (amap AV.str (AV.int .i64) (idxF 0 ts))) = True := eq_true (osc_amap _ _ (idxF 0 ts) n ver (fun _ => by simp [Scoped]) (fun _ => by simp [Scoped]))
attribute [push_cast] scIx
theorem flT_len (ts : List Term) : (flat (encTs ts)).length = ts.length * 3 := by rw [flat_length (uni_encTs ts), encTs_length]
theorem splice_T (ts : List Term) (u : Term) (z : List AV) (hz : z.length = 3) : splice (flat (encTs ts) ++ z) (ts.length * 3) [.str u.name, .bool u.var, .sl .none (encTs u.args)] = flat (encTs (ts ++ [u])) := by
  have hl := flT_len ts
  unfold splice
  rw [← hl, List.take_left, List.drop_of_length_le (by rw [List.length_append, hz]; simp), List.append_nil, encTs_append, encTs_one]
  simp [flat, AV.cells]
theorem flT_sc (n : Nat) (ts : List Term) : ScopedL n (flat (encTs ts)) := by
  induction ts with
  | nil => rw [encTs_nil]; exact trivial
  | cons t ts ih =>
    rw [encTs_cons]
    have e : flat (encT t :: encTs ts) = [.str t.name, .bool t.var, .sl .none (encTs t.args)] ++ flat (encTs ts) := by simp [flat, AV.cells]
    rw [e]
    exact ⟨trivial, trivial, scoped_encTs n t.args, ih⟩
section
variable {P : Program} {ro : Option Nat} {st : ASt} {K : AV → List AObj → Prop} {dst : Option Tmp} {ty : TypeId} {pos : String} {after : Array Edge} {guard : Option (Nat × Bool)}
theorem appZ_T {t e by_ : Nat} {s x : Operand} (zs : List Value) (k : Nat) (ts : List Term) (tk : Tok) (hs : st.opd s = .gr k ts.length) (hx : st.opd x = .sl tk [.agg [.str [], .bool false, .sl .zero []]]) (hh : st.heap[k]? = some (.grow e 3 (flat (encTs ts))))
    (ht : SliceT P t e) (hsz : SzOf P e 3) (hby : BytesOf P e by_) (hz : ZeroOf P e zs) (hz0 : zs.length = 3) (hb : by_ ≤ 100) (hl : ts.length < 1099511627776)
    (k' : K (.gr k (ts.length + 1)) (st.heap.set k (.grow e 3 (flat (encTs ts) ++ [.str [], .bool false, .sl .zero []])))) :
    AOp P ro ⟨dst, .call { callee := .builtin .append, args := #[s, x], argTypes := #[t, t] }, ty, pos, after, guard⟩ K st := by
  have h1 : (ts.length + 1) * by_ ≤ 1099511627776 * 100 := Nat.mul_le_mul (by omega) hb
  refine AOp_append_gr1 zs k (encTs ts) [.agg [.str [], .bool false, .sl .zero []]] tk (by rw [encTs_length]; exact hs) hx hh ht hsz hby hz hz0 (by decide) (uni_encTs ts) (by simp [Uni, AV.cells]) (by intro c hc; simp [flat, AV.cells] at hc; rcases hc with rfl | rfl | rfl <;> rfl) (by rw [encTs_length]; simp; omega) (by rw [encTs_length]; simp; omega) ?_
  rw [encTs_length]
  exact k'
end
set_option maxHeartbeats 4000000 in
theorem add2_ac (H : List AObj) (c2 c3 x1 x2 : AObj) (most : Nat) (ts : List Term) (el : List Edg) (w : Bool) (u : Term) (hts : ∀ x, x ∈ ts → formedP x = true) (hu : formedP u = true) (hb : u.bulk ≤ 1099511627775) (hl : ts.length < 1099511627776) :
    ACall Tryz.prog 119 [.ptr (H.length + 5) 0, encT u] (exHeap H c2 c3 most ts el w [x1, x2]) (fun r H' => r = .tup [.int .i64 ((addR most ts u).1 : Nat), .bool (addR most ts u).2] ∧ H' = exHeap H c2 c3 most (addTs most ts u) el (addW most ts w u) [x1, x2]) := by
  have hget := idxF_get u hu ts 0 hts
  refine ACall_V (H.length + 8) 66 [.tmp 4, .tmp 5] Tryz.func119 rfl rfl rfl ?_
  simp only [push_cast, Nat.reduceAdd, Nat.reduceSub, Nat.reduceMul, Nat.reduceLT, Nat.reduceLeDiff, Nat.reduceEqDiff, Int.reduceToNat, ↓reduceIte]
  refine (key_ac u hb _).to ?_
  simp only [push_cast, Nat.reduceAdd, Nat.reduceSub, Nat.reduceMul, Nat.reduceLT, Nat.reduceLeDiff, Nat.reduceEqDiff, Int.reduceToNat, ↓reduceIte]
  refine AOp_lookupOk (strKey un9) (AV.int .i64) (idxF 0 ts) (H.length + 4) ts.length (keyP u) (.int .i64 0) rfl (by exact (agetN _ _ 4).trans rfl) rfl un125 (ZeroV_of (.int .i64 0) (by kernel_rfl)) ?_
  rw [hget]
  unfold addR addTs addW
  by_cases hm : u ∈ ts
  · rw [if_pos hm, if_pos hm, if_pos (.inl hm), if_neg (by simp [hm])]
    simp only [push_cast, Nat.reduceAdd, Nat.reduceSub, Nat.reduceMul, Nat.reduceLT, Nat.reduceLeDiff, Nat.reduceEqDiff, Int.reduceToNat, ↓reduceIte, Option.map_some, Option.getD_some, Option.isSome_some]
    exact outok_ex (L := exL H c2 c3 most ts el w [x1, x2]) (L' := exL H c2 c3 most ts el w [x1, x2]) (Y := [_]) rfl rfl (fun i o h => .inl h)
  · rw [if_neg hm, if_neg hm]
    simp only [push_cast, Nat.reduceAdd, Nat.reduceSub, Nat.reduceMul, Nat.reduceLT, Nat.reduceLeDiff, Nat.reduceEqDiff, Int.reduceToNat, ↓reduceIte, Option.map_none, Option.getD_none, Option.isSome_none]
    apply AW_drawE [some 22, some 23, some 24, some 25, some 26, some 27, some 28, some 29, some 30, some 31, some 32] [([], _)] [none, none, none, none, none, none, none, none, none, none, none] 0 [(0, [], [0]), (1, [], [22]), (2, [], [23]), (3, [], [24]), (4, [], [25]), (5, [], [26]), (6, [], [0]), (7, [], [28]), (8, [], [29]), (9, [], [30]), (10, [], [27, 3])] [_, _, _, _, _, _, _, _, _, _, _]
    case' hm => exact dr
    case' hn => rfl
    case' hok => rfl
    case' hlen => rfl
    case' hd => rfl
    case' h0 => rfl
    case' hstep =>
     simp only [DAllG, push_cast, Option.isSome_some, Option.isSome_none]
     repeat' apply And.intro
     all_goals (apply DOne_V; simp only [push_cast, Nat.reduceAdd, Nat.reduceSub, Nat.reduceMul, Nat.reduceLT, Nat.reduceLeDiff, Nat.reduceEqDiff, Int.reduceToNat, ↓reduceIte] <;> first | exact rfl | omega | exact ⟨rfl, rfl⟩ | exact trivial | exact ⟨by omega, rfl⟩ | exact ⟨by omega, by omega, rfl⟩ | exact ⟨by omega, rfl, rfl⟩ | exact ⟨by omega, by omega, rfl, rfl⟩ | skip)
    case' hQ => skip
    simp only [push_cast, Nat.reduceAdd, Nat.reduceSub, Nat.reduceMul, Nat.reduceLT, Nat.reduceLeDiff, Nat.reduceEqDiff, Int.reduceToNat, ↓reduceIte]
    refine cI (fun h5 => ?_) (fun h5 => ?_)
    · have h5' : most ≤ ts.length := by omega
      rw [if_pos h5', if_pos (.inr h5'), if_pos ⟨hm, h5'⟩]
      simp only [push_cast, Nat.reduceAdd, Nat.reduceSub, Nat.reduceMul, Nat.reduceLT, Nat.reduceLeDiff, Nat.reduceEqDiff, Int.reduceToNat, ↓reduceIte]
      refine outok_ex (L := exL H c2 c3 most ts el w [x1, x2]) (L' := exL H c2 c3 most ts el false [x1, x2]) (Y := [_]) rfl rfl (fun i o h => ?_)
      match i with
      | 0 | 1 | 2 | 3 | 4 => exact .inl h
      | 5 => injection h with h; subst h; exact .inr (osc_gx _ _ _ _ _ _ _ _ (by omega) (by omega) (by omega))
      | i + 6 => exact .inl h
    · have h5' : ¬ most ≤ ts.length := by omega
      rw [if_neg h5', if_neg (by rintro (h | h); exact hm h; exact h5' h), if_neg (by rintro ⟨_, h⟩; exact h5' h)]
      have hset := idxF_set hu hts hm
      apply AW_drawE [some 37, some 38, some 39, some 40, some 41, some 42, some 43, some 44, some 45, some 46, some 47, none] [([false], _), ([true], _)] [none, none, none, none, none, none, none, none, none, none, none, some 0] 1 [(0, [false], [0]), (1, [false], [37]), (2, [false], [38]), (3, [false], [39]), (4, [false], [6]), (5, [false], [0]), (6, [false], [42]), (7, [false], [43]), (8, [false], [44]), (9, [false], [45]), (10, [false], [46]), (11, [false], [40, 0, 5])] [_, _, _, _, _, _, _, _, _, _, _, _]
      case' hm => exact dr
      case' hn => rfl
      case' hok => rfl
      case' hlen => rfl
      case' hd => rfl
      case' h0 => rfl
      case' hstep =>
       simp only [DAllG, push_cast, Option.isSome_some, Option.isSome_none]
       repeat' apply And.intro
       all_goals (apply DOne_V; simp only [push_cast, Nat.reduceAdd, Nat.reduceSub, Nat.reduceMul, Nat.reduceLT, Nat.reduceLeDiff, Nat.reduceEqDiff, Int.reduceToNat, ↓reduceIte] <;> first | exact rfl | omega | exact ⟨rfl, rfl⟩ | exact trivial | exact ⟨by omega, rfl⟩ | exact ⟨by omega, by omega, rfl⟩ | exact ⟨by omega, rfl, rfl⟩ | exact ⟨by omega, by omega, rfl, rfl⟩ | (refine AOp_mapUpdate (strKey un9) (AV.int .i64) (idxF 0 ts) (H.length + 4) ts.length (keyP u) (ts.length : Int) rfl (by exact (agetN _ _ 4).trans rfl) rfl rfl un125 ?_; exact ⟨rfl, rfl⟩))
      case' hQ => skip
      simp only [push_cast, Nat.reduceAdd, Nat.reduceSub, Nat.reduceMul, Nat.reduceLT, Nat.reduceLeDiff, Nat.reduceEqDiff, Int.reduceToNat, ↓reduceIte]
      have hfl := flT_len ts
      apply AW_drawE [some 48, some 49, some 50, some 51, some 52, some 53, some 54, some 55, some 56, some 57, none, some 58, some 59, some 60, none] [([false, false, false], _), ([true, false, false], _), ([true, false, true], _), ([true, true, false], _), ([true, true, true], _)] [none, none, none, none, none, none, none, none, some 0, none, some 1, none, none, none, some 2] 3 [(0, [false, false, false], [0]), (1, [false, false, false], [48]), (2, [false, false, false], [49]), (3, [false, false, false], [50]), (4, [false, false, false], [51]), (5, [false, false, false], [3]), (6, [false, false, false], [52]), (7, [false, false, false], []), (8, [false, false, false], [52, 2]), (9, [true, false, false], [54, 1]), (10, [true, false, false], [53, 3]), (11, [true, false, false], [48]), (12, [true, false, false], [58]), (13, [true, false, false], [59]), (14, [true, false, false], [56, 3]), (9, [true, false, true], [54, 1]), (10, [true, false, true], [53, 3]), (11, [true, true, false], [48]), (11, [true, false, true], [48]), (12, [true, true, false], [58]), (12, [true, false, true], [58]), (13, [true, true, false], [59]), (14, [true, true, false], [56, 3]), (11, [true, true, true], [48]), (12, [true, true, true], [58])] [_, _, _, _, _, _, _, _, _, _, _, _, _, _, _]
      case' hm => exact dr
      case' hn => rfl
      case' hok => rfl
      case' hlen => rfl
      case' hd => rfl
      case' h0 => rfl
      case' hstep =>
       simp only [DAllG, push_cast, Option.isSome_some, Option.isSome_none]
       repeat' apply And.intro
       all_goals (apply DOne_V; simp only [push_cast, Nat.reduceAdd, Nat.reduceSub, Nat.reduceMul, Nat.reduceLT, Nat.reduceLeDiff, Nat.reduceEqDiff, Int.reduceToNat, ↓reduceIte] <;> first | exact rfl | omega | exact ⟨rfl, rfl⟩ | exact trivial | exact ⟨by omega, rfl⟩ | exact ⟨by omega, by omega, rfl⟩ | exact ⟨by omega, rfl, rfl⟩ | exact ⟨by omega, by omega, rfl, rfl⟩ | (refine appZ_T _ H.length ts _ rfl rfl (by exact aget0 _ _ _) sl23 sz25 by25 zr25 rfl (by decide) hl ?_; exact ⟨rfl, rfl⟩) | trace_state)
      case' hQ => skip
      simp only [push_cast, Nat.reduceAdd, Nat.reduceSub, Nat.reduceMul, Nat.reduceLT, Nat.reduceLeDiff, Nat.reduceEqDiff, Int.reduceToNat, ↓reduceIte]
      have hsp := splice_T ts u [.str [], .bool false, .sl .zero []] rfl
      simp only [splice, List.append_assoc, List.cons_append, List.nil_append, List.length_cons, List.length_nil, Nat.zero_add, Nat.reduceAdd] at hsp
      rw [hsp, hset]
      refine ⟨⟨by omega, by omega⟩, ?_, by omega, ?_⟩
      · refine outok_ex (L := exL H c2 c3 most ts el w [x1, x2]) (L' := .grow 25 3 (flat (encTs (ts ++ [u]))) :: gTok 117 4 (encL encE el) :: c2 :: c3 :: .map (ts.length + 1) (mapT (ts ++ [u])) :: .cells [.gr H.length (ts.length + 1), gSl (H.length + 1) (encL encE el), .bool w, .map (H.length + 4), .int .i64 (most : Nat)] :: [x1, x2]) (Y := [_]) rfl rfl (fun i o h => ?_)
        match i with
        | 0 => injection h with h; subst h; exact .inr (flT_sc _ _)
        | 1 | 2 | 3 => exact .inl h
        | 4 => injection h with h; subst h; exact .inr (of_eq_true (scIx _ _ _))
        | 5 => injection h with h; subst h; exact .inr (osc_gx _ _ _ _ _ _ _ _ (by omega) (by omega) (by omega))
        | i + 6 => exact .inl h
      · exact ⟨rfl, rfl⟩
section
variable {P : Program} {ro : Option Nat} {st : ASt} {K : AV → List AObj → Prop} {dst : Option Tmp} {ty : TypeId} {pos : String} {after : Array Edge} {guard : Option (Nat × Bool)}
theorem appZ0_T {t e by_ : Nat} {s x : Operand} (zs : List Value) (k : Nat) (tk : Tok) (hs : st.opd s = .sl .zero []) (hx : st.opd x = .sl tk [.agg [.str [], .bool false, .sl .zero []]]) (hh : st.heap[k]? = some .dead)
    (ht : SliceT P t e) (hsz : SzOf P e 3) (hby : BytesOf P e by_) (hz : ZeroOf P e zs) (hz0 : zs.length = 3) (hb : by_ ≤ 100)
    (k' : K (.gr k 1) (st.heap.set k (.grow e 3 [.str [], .bool false, .sl .zero []]))) :
    AOp P ro ⟨dst, .call { callee := .builtin .append, args := #[s, x], argTypes := #[t, t] }, ty, pos, after, guard⟩ K st :=
  AOp_append_zeroGr k hh zs [.agg [.str [], .bool false, .sl .zero []]] tk hs hx ht hsz hby hz hz0 (by decide) (by simp [Uni, AV.cells]) (by intro c hc; simp [flat, AV.cells] at hc; rcases hc with rfl | rfl | rfl <;> rfl) (by simp) (by simp; omega) (by simp) k'
end
@[reducible] def exL0 (H : List AObj) (c2 c3 : AObj) (most : Nat) : List AObj := [.dead, .dead, c2, c3, .map 0 [], .cells [.sl .zero [], .sl .zero [], .bool true, .map (H.length + 4), .int .i64 (most : Nat)]]
set_option maxHeartbeats 4000000 in
theorem add1_ac (H : List AObj) (c2 c3 : AObj) (most : Nat) (u : Term) (hu : formedP u = true) (hb : u.bulk ≤ 1099511627775) (hm : 1 ≤ most) :
    ACall Tryz.prog 119 [.ptr (H.length + 5) 0, encT u] (H ++ exL0 H c2 c3 most) (fun r H' => r = .tup [.int .i64 0, .bool true] ∧ H' = exHeap H c2 c3 most [u] [] true []) := by
  refine ACall_V (H.length + 6) 66 [.tmp 4, .tmp 5] Tryz.func119 rfl rfl rfl ?_
  simp only [push_cast, Nat.reduceAdd, Nat.reduceSub, Nat.reduceMul, Nat.reduceLT, Nat.reduceLeDiff, Nat.reduceEqDiff, Int.reduceToNat, ↓reduceIte]
  refine (key_ac u hb _).to ?_
  simp only [push_cast, Nat.reduceAdd, Nat.reduceSub, Nat.reduceMul, Nat.reduceLT, Nat.reduceLeDiff, Nat.reduceEqDiff, Int.reduceToNat, ↓reduceIte]
  refine AOp_lookupOk (strKey un9) (AV.int .i64) [] (H.length + 4) 0 (keyP u) (.int .i64 0) rfl (by exact (agetN _ _ 4).trans rfl) rfl un125 (ZeroV_of (.int .i64 0) (by kernel_rfl)) ?_
  simp only [push_cast, Nat.reduceAdd, Nat.reduceSub, Nat.reduceMul, Nat.reduceLT, Nat.reduceLeDiff, Nat.reduceEqDiff, Int.reduceToNat, ↓reduceIte, aget, Option.map_none, Option.getD_none, Option.isSome_none]
  apply AW_drawE [some 22, some 23, some 24, some 25, some 26, some 27, some 28, some 29, some 30, some 31, some 32] [([], _)] [none, none, none, none, none, none, none, none, none, none, none] 0 [(0, [], [0]), (1, [], [22]), (2, [], [23]), (3, [], [24]), (4, [], [25]), (5, [], [26]), (6, [], [0]), (7, [], [28]), (8, [], [29]), (9, [], [30]), (10, [], [27, 3])] [_, _, _, _, _, _, _, _, _, _, _]
  case' hm => exact dr
  case' hn => rfl
  case' hok => rfl
  case' hlen => rfl
  case' hd => rfl
  case' h0 => rfl
  case' hstep =>
   simp only [DAllG, push_cast, Option.isSome_some, Option.isSome_none]
   repeat' apply And.intro
   all_goals (apply DOne_V; simp only [push_cast, Nat.reduceAdd, Nat.reduceSub, Nat.reduceMul, Nat.reduceLT, Nat.reduceLeDiff, Nat.reduceEqDiff, Int.reduceToNat, ↓reduceIte] <;> first | exact rfl | omega | exact ⟨rfl, rfl⟩ | exact trivial | exact ⟨by omega, rfl⟩ | exact ⟨by omega, by omega, rfl⟩ | exact ⟨by omega, rfl, rfl⟩ | exact ⟨by omega, by omega, rfl, rfl⟩ | skip)
  case' hQ => skip
  simp only [push_cast, Nat.reduceAdd, Nat.reduceSub, Nat.reduceMul, Nat.reduceLT, Nat.reduceLeDiff, Nat.reduceEqDiff, Int.reduceToNat, ↓reduceIte]
  refine cI (fun h5 => absurd h5 (by omega)) (fun h5 => ?_)
  apply AW_drawE [some 37, some 38, some 39, some 40, some 41, some 42, some 43, some 44, some 45, some 46, some 47, none] [([false], _), ([true], _)] [none, none, none, none, none, none, none, none, none, none, none, some 0] 1 [(0, [false], [0]), (1, [false], [37]), (2, [false], [38]), (3, [false], [39]), (4, [false], [6]), (5, [false], [0]), (6, [false], [42]), (7, [false], [43]), (8, [false], [44]), (9, [false], [45]), (10, [false], [46]), (11, [false], [40, 0, 5])] [_, _, _, _, _, _, _, _, _, _, _, _]
  case' hm => exact dr
  case' hn => rfl
  case' hok => rfl
  case' hlen => rfl
  case' hd => rfl
  case' h0 => rfl
  case' hstep =>
   simp only [DAllG, push_cast, Option.isSome_some, Option.isSome_none]
   repeat' apply And.intro
   all_goals (apply DOne_V; simp only [push_cast, Nat.reduceAdd, Nat.reduceSub, Nat.reduceMul, Nat.reduceLT, Nat.reduceLeDiff, Nat.reduceEqDiff, Int.reduceToNat, ↓reduceIte] <;> first | exact rfl | omega | exact ⟨rfl, rfl⟩ | exact trivial | exact ⟨by omega, rfl⟩ | exact ⟨by omega, by omega, rfl⟩ | exact ⟨by omega, rfl, rfl⟩ | exact ⟨by omega, by omega, rfl, rfl⟩ | (refine AOp_mapUpdate (strKey un9) (AV.int .i64) [] (H.length + 4) 0 (keyP u) (0 : Int) rfl (by exact (agetN _ _ 4).trans rfl) rfl rfl un125 ?_; exact ⟨rfl, rfl⟩))
  case' hQ => skip
  simp only [push_cast, Nat.reduceAdd, Nat.reduceSub, Nat.reduceMul, Nat.reduceLT, Nat.reduceLeDiff, Nat.reduceEqDiff, Int.reduceToNat, ↓reduceIte]
  apply AW_drawE [some 48, some 49, some 50, some 51, some 52, some 53, some 54, some 55, some 56, some 57, none, some 58, some 59, some 60, none] [([false, false, false], _), ([true, false, false], _), ([true, false, true], _), ([true, true, false], _), ([true, true, true], _)] [none, none, none, none, none, none, none, none, some 0, none, some 1, none, none, none, some 2] 3 [(0, [false, false, false], [0]), (1, [false, false, false], [48]), (2, [false, false, false], [49]), (3, [false, false, false], [50]), (4, [false, false, false], [51]), (5, [false, false, false], [3]), (6, [false, false, false], [52]), (7, [false, false, false], []), (8, [false, false, false], [52, 2]), (9, [true, false, false], [54, 1]), (10, [true, false, false], [53, 3]), (11, [true, false, false], [48]), (12, [true, false, false], [58]), (13, [true, false, false], [59]), (14, [true, false, false], [56, 3]), (9, [true, false, true], [54, 1]), (10, [true, false, true], [53, 3]), (11, [true, true, false], [48]), (11, [true, false, true], [48]), (12, [true, true, false], [58]), (12, [true, false, true], [58]), (13, [true, true, false], [59]), (14, [true, true, false], [56, 3]), (11, [true, true, true], [48]), (12, [true, true, true], [58])] [_, _, _, _, _, _, _, _, _, _, _, _, _, _, _]
  case' hm => exact dr
  case' hn => rfl
  case' hok => rfl
  case' hlen => rfl
  case' hd => rfl
  case' h0 => rfl
  case' hstep =>
   simp only [DAllG, push_cast, Option.isSome_some, Option.isSome_none]
   repeat' apply And.intro
   all_goals (apply DOne_V; simp only [push_cast, Nat.reduceAdd, Nat.reduceSub, Nat.reduceMul, Nat.reduceLT, Nat.reduceLeDiff, Nat.reduceEqDiff, Int.reduceToNat, ↓reduceIte] <;> first | exact rfl | omega | exact ⟨rfl, rfl⟩ | exact trivial | exact ⟨by omega, rfl⟩ | exact ⟨by omega, by omega, rfl⟩ | exact ⟨by omega, rfl, rfl⟩ | exact ⟨by omega, by omega, rfl, rfl⟩ | (refine appZ0_T _ H.length _ rfl rfl (by exact aget0 _ _ _) sl23 sz25 by25 zr25 rfl (by decide) ?_; exact ⟨rfl, rfl⟩) | trace_state)
  case' hQ => skip
  simp only [push_cast, Nat.reduceAdd, Nat.reduceSub, Nat.reduceMul, Nat.reduceLT, Nat.reduceLeDiff, Nat.reduceEqDiff, Int.reduceToNat, ↓reduceIte]
  refine ⟨⟨by omega, by omega⟩, ?_, by omega, by simp [flat, AV.cells], rfl⟩
  refine outok_ex (L := exL0 H c2 c3 most) (L' := [.grow 25 3 [.str u.name, .bool u.var, .sl .none (encTs u.args)], .dead, c2, c3, .map 1 (mapT [u]), .cells [.gr H.length 1, .sl .zero [], .bool true, .map (H.length + 4), .int .i64 (most : Nat)]]) (Y := [_]) rfl rfl (fun i o h => ?_)
  match i with
  | 0 => injection h with h; subst h; exact .inr ⟨trivial, trivial, scoped_encTs _ u.args, trivial⟩
  | 1 | 2 | 3 => exact .inl h
  | 4 => injection h with h; subst h; exact .inr (of_eq_true (scIx _ 1 [u]))
  | 5 => injection h with h; subst h; exact .inr (osc_gx _ _ _ (H.length + 1) [] _ _ _ (by omega) (by omega) (by omega))
  | i + 6 => exact .inl h
end Ab
set_option maxRecDepth 10000
namespace Ab
open Go Go.Proofs
structure GrP where
  ts : List Term
  es : List Edg
  wh : Bool
def zeroG : GrP := ⟨[], [], false⟩
@[reducible] def encG (g : GrP) : AV := .agg [.sl .none (encTs g.ts), .sl .none (encL encE g.es), .bool g.wh]
def exStep (most i : Nat) (g : GrP) (s : Int × List Int) (u : Term) : GrP := ⟨addTs most g.ts u, if (addR most g.ts u).2 then g.es ++ [⟨i, (addR most g.ts u).1, s⟩] else g.es, addW most g.ts g.wh u⟩
def exRow (rs : List (Term × Term)) (most i : Nat) (t : Term) : GrP → List (Int × List Int) → GrP × Int
  | g, [] => (g, 0)
  | g, s :: r => if (doE rs t s).2 ≠ 0 then (zeroG, (doE rs t s).2) else exRow rs most i t (exStep most i g s (doE rs t s).1) r
def expF (rs : List (Term × Term)) (most : Nat) : Nat → Nat → GrP → GrP × Int
  | 0, _, g => (g, 0)
  | n + 1, i, g => match g.ts[i]? with
    | none => (g, 0)
    | some t => if (exRow rs most i t g (allS rs t)).2 ≠ 0 then exRow rs most i t g (allS rs t) else expF rs most n (i + 1) (exRow rs most i t g (allS rs t)).1
def exploreF (rs : List (Term × Term)) (t : Term) (most : Nat) : GrP × Int := expF rs most most 0 ⟨[t], [], true⟩
def encGE (q : GrP × Int) : AV := .tup [encG q.1, .int .i64 q.2]
theorem allS_len {rs : List (Term × Term)} (hr : sysP rs = 0) {t : Term} (ht : checkP t = 0) : (allS rs t).length ≤ 256000 := by
  have hc := check_small ht
  have h2 := allI_len rs (walkT t [])
  have h3 := walkT_length t []
  have h4 : (walkT t []).length * rs.length ≤ 4000 * 64 := Nat.mul_le_mul (by omega) (sys_B hr).1.1
  unfold allS
  omega
theorem addTs_len (most : Nat) (ts : List Term) (u : Term) (h : ts.length ≤ most) : (addTs most ts u).length ≤ most := by
  unfold addTs; split
  · exact h
  · rename_i h1; simp; omega
theorem addTs_mem {most : Nat} {ts : List Term} {u x : Term} (h : x ∈ addTs most ts u) : x ∈ ts ∨ x = u := by
  unfold addTs at h; split at h
  · exact .inl h
  · rcases List.mem_append.1 h with h | h
    · exact .inl h
    · exact .inr (List.mem_singleton.1 h)
theorem addTs_get {most : Nat} {ts : List Term} {u t : Term} {i : Nat} (h : ts[i]? = some t) : (addTs most ts u)[i]? = some t := by
  unfold addTs; split
  · exact h
  · rw [List.getElem?_append_left (List.getElem?_eq_some_iff.1 h).1]; exact h
theorem flT_get (ts : List Term) (i : Nat) (h : i < ts.length) : ((flat (encTs ts)).drop (i * 3)).take 3 = [.str (ts[i]).name, .bool (ts[i]).var, .sl .none (encTs (ts[i]).args)] := by
  have e : ts = ts.take i ++ ts[i] :: ts.drop (i + 1) := by rw [← List.drop_eq_getElem_cons h, List.take_append_drop]
  have hl := flT_len (ts.take i)
  rw [List.length_take, Nat.min_eq_left (by omega)] at hl
  obtain ⟨x, hx⟩ : ∃ x, x = ts[i] := ⟨_, rfl⟩
  rw [← hx] at e ⊢
  rw [e, encTs_append]
  have e2 : flat (encTs (ts.take i) ++ encTs (x :: ts.drop (i + 1))) = flat (encTs (ts.take i)) ++ flat (encTs (x :: ts.drop (i + 1))) := by simp [flat]
  rw [e2, ← hl, List.drop_left, encTs_cons]
  simp [flat, AV.cells]
theorem grS_T (k : Nat) {ts : List Term} (h : ts ≠ []) : AV.gr k ts.length = grS k (encTs ts) := by
  cases ts with
  | nil => exact absurd rfl h
  | cons t r => rw [encTs_cons]; show AV.gr k (r.length + 1) = .gr k ((encTs r).length + 1); rw [encTs_length]
theorem grO_T (e : Nat) {ts : List Term} (h : ts ≠ []) : AObj.grow e 3 (flat (encTs ts)) = grO e 3 (encTs ts) := by
  cases ts with
  | nil => exact absurd rfl h
  | cons t r => rw [encTs_cons]; rfl
theorem osc_exL {n : Nat} {H : List AObj} {c2 c3 : AObj} {most : Nat} {ts : List Term} {el : List Edg} {w : Bool} (h2 : OScoped n c2) (h3 : OScoped n c3) (hn : H.length + 6 ≤ n) : ∀ o, o ∈ exL H c2 c3 most ts el w [] → OScoped n o := by
  intro o ho
  simp only [List.mem_cons, List.not_mem_nil, or_false] at ho
  rcases ho with rfl | rfl | rfl | rfl | rfl | rfl
  · exact flT_sc _ _
  · cases el with
    | nil => exact trivial
    | cons a r => exact trivial
  · exact h2
  · exact h3
  · exact of_eq_true (scIx _ _ _)
  · exact osc_gx _ _ _ _ _ _ _ _ (by omega) (by omega) (by omega)
theorem ok_ex (H : List AObj) (t : Term) (most : Nat) (g : GrP) : OutOk H (H ++ [.grow 25 3 (flat (encTs g.ts)), gTok 117 4 (encL encE g.es), .cells [.str t.name, .bool t.var, .sl .none (encTs t.args)], .cells [.sl .zero [], .sl .zero [], .bool false], .map g.ts.length (mapT g.ts), .cells [.gr H.length g.ts.length, gSl (H.length + 1) (encL encE g.es), .bool g.wh, .map (H.length + 4), .int .i64 (most : Nat)]]) (H.length + 6) :=
  outok_app (L := exL H (.cells [.str t.name, .bool t.var, .sl .none (encTs t.args)]) (.cells [.sl .zero [], .sl .zero [], .bool false]) most g.ts g.es g.wh []) 6 rfl (by simp) (fun o ho => osc_exL (by exact ⟨trivial, trivial, scoped_encTs _ t.args, trivial⟩) (by exact ⟨trivial, trivial, trivial, trivial⟩) (Nat.le_refl _) o (List.mem_of_mem_take ho))
theorem ok_exX (H : List AObj) (t : Term) (most : Nat) (ts : List Term) (el : List Edg) (w : Bool) (X : List AObj) : OutOk H (H ++ exL H (.cells [.str t.name, .bool t.var, .sl .none (encTs t.args)]) (.cells [.sl .zero [], .sl .zero [], .bool false]) most ts el w X) (H.length + 6) :=
  outok_app 6 rfl (by simp) (fun o ho => osc_exL (c2 := .cells [.str t.name, .bool t.var, .sl .none (encTs t.args)]) (c3 := .cells [.sl .zero [], .sl .zero [], .bool false]) (most := most) (ts := ts) (el := el) (w := w) (by exact ⟨trivial, trivial, scoped_encTs _ t.args, trivial⟩) (by exact ⟨trivial, trivial, trivial, trivial⟩) (Nat.le_refl _) o (by simpa using ho))
theorem expF_end (rs : List (Term × Term)) (most n : Nat) (g : GrP) : expF rs most n g.ts.length g = (g, 0) := by
  cases n with
  | zero => rfl
  | succ n => rw [expF, List.getElem?_eq_none (Nat.le_refl _)]
structure GOk (most i j : Nat) (t : Term) (g : GrP) : Prop where
  len : g.ts.length ≤ most
  ck : ∀ x, x ∈ g.ts → checkP x = 0
  es : g.es.length ≤ i * 256000 + j
  at' : g.ts[i]? = some t
theorem GOk.step {rs : List (Term × Term)} (hr : sysP rs = 0) {most i j : Nat} {t : Term} {g : GrP} (h : GOk most i j t g) (ht : checkP t = 0) {s : Int × List Int} (hd : (doE rs t s).2 = 0) : GOk most i (j + 1) t (exStep most i g s (doE rs t s).1) := by
  refine ⟨addTs_len most _ _ h.len, fun x hx => ?_, ?_, addTs_get h.at'⟩
  · rcases addTs_mem hx with hx | rfl
    · exact h.ck x hx
    · exact do_check hr ht hd
  · have := h.es
    unfold exStep
    split <;> simp <;> omega
set_option maxRecDepth 1000000 in
set_option maxHeartbeats 8000000 in
theorem explore_ac (rs : List (Term × Term)) (hr : sysP rs = 0) (t : Term) (ht : checkP t = 0) (most : Nat) (hm : 1 ≤ most) (hm2 : most ≤ 4096) (H : List AObj) :
    ACall Tryz.prog 83 [.sl .none (encL encRu rs), encT t, .int .i64 (most : Nat)] H (fun r H' => r = encGE (exploreF rs t most) ∧ H' = H) := by
  have hts := check_small ht
  refine ACall_VHA (H.length) 95 [.cell 6 69, .tmp 7] Tryz.func83 rfl rfl rfl ?_
  refine AW_reserve 2 ?_
  refine AW_of_W ?_
  simp only [push_cast, Nat.reduceAdd, Nat.reduceSub, Nat.reduceMul, Nat.reduceLT, Nat.reduceLeDiff, Nat.reduceEqDiff, Int.reduceToNat, ↓reduceIte]
  refine (own_ac t (by omega) _).to ?_
  simp only [push_cast, Nat.reduceAdd, Nat.reduceSub, Nat.reduceMul, Nat.reduceLT, Nat.reduceLeDiff, Nat.reduceEqDiff, Int.reduceToNat, ↓reduceIte]
  refine (add1_ac H (.cells [.str t.name, .bool t.var, .sl .none (encTs t.args)]) (.cells [.sl .zero [], .sl .zero [], .bool false]) most t ((check_iff t).1 ht).1 (by omega) hm).to ?_
  simp only [push_cast, Nat.reduceAdd, Nat.reduceSub, Nat.reduceMul, Nat.reduceLT, Nat.reduceLeDiff, Nat.reduceEqDiff, Int.reduceToNat, ↓reduceIte]
  obtain ⟨RES, hRES⟩ : ∃ RES, RES = exploreF rs t most := ⟨_, rfl⟩
  rw [← hRES]
  refine AW_loopW (maskG 98 [0, 5, 1, 0]) (fun (q : Nat × GrP) => [(9, .int .i64 q.1)]) (fun q => H ++ [.grow 25 3 (flat (encTs q.2.ts)), gTok 117 4 (encL encE q.2.es), .cells [.str t.name, .bool t.var, .sl .none (encTs t.args)], .cells [.sl .zero [], .sl .zero [], .bool false], .map q.2.ts.length (mapT q.2.ts), .cells [.gr H.length q.2.ts.length, gSl (H.length + 1) (encL encE q.2.es), .bool q.2.wh, .map (H.length + 4), .int .i64 (most : Nat)]]) (fun q => q.1 ≤ q.2.ts.length ∧ q.2.ts ≠ [] ∧ q.2.ts.length ≤ most ∧ (∀ x, x ∈ q.2.ts → checkP x = 0) ∧ q.2.es.length ≤ q.1 * 256000 ∧ RES = expF rs most (most - q.1) q.1 q.2) (fun q => most - q.1) (0, ⟨[t], [], true⟩) ⟨Nat.zero_le _, by simp, by simpa using hm, by intro x hx; simp at hx; rw [hx]; exact ht, by simp, by rw [hRES]; rfl⟩ (by simp only [push_cast, Nat.reduceAdd, Nat.reduceSub, Nat.reduceMul, Nat.reduceLT, Nat.reduceLeDiff, Nat.reduceEqDiff, Int.reduceToNat, ↓reduceIte]; exact ok_ex H t most ⟨[t], [], true⟩) (fun q hq => ?_)
  obtain ⟨i, g⟩ := q
  obtain ⟨q1, q2, q3, q4, q5, q6⟩ := hq
  simp only at q1 q2 q3 q4 q5 q6
  have hfl := flT_len g.ts
  simp only [push_cast, Nat.reduceAdd, Nat.reduceSub, Nat.reduceMul, Nat.reduceLT, Nat.reduceLeDiff, Nat.reduceEqDiff, Int.reduceToNat, ↓reduceIte]
  refine cI (fun h => ?_) (fun h => ?_)
  · have hil : i < g.ts.length := by omega
    obtain ⟨u, hu⟩ : ∃ u, u = g.ts[i]'hil := ⟨_, rfl⟩
    have hut : g.ts[i]? = some u := by rw [List.getElem?_eq_getElem hil, hu]
    have huc : checkP u = 0 := by rw [hu]; exact q4 _ (List.getElem_mem hil)
    have hus := check_small huc
    have hal := allS_len hr huc
    have hfg := flT_get g.ts i hil
    rw [← hu] at hfg
    obtain ⟨n, hn⟩ : ∃ n, most - i = n + 1 := ⟨most - i - 1, by omega⟩
    rw [hn, expF, hut] at q6
    simp only at q6
    simp only [push_cast, Nat.reduceAdd, Nat.reduceSub, Nat.reduceMul, Nat.reduceLT, Nat.reduceLeDiff, Nat.reduceEqDiff, Int.reduceToNat, ↓reduceIte, hfl, hfg]
    refine ⟨hil, by omega, ?_⟩
    refine (allSteps_ac rs (sys_B hr).1 u (by omega) _).to ?_
    simp only [push_cast, Nat.reduceAdd, Nat.reduceSub, Nat.reduceMul, Nat.reduceLT, Nat.reduceLeDiff, Nat.reduceEqDiff, Int.reduceToNat, ↓reduceIte]
    obtain ⟨l, hl⟩ : ∃ l, l = allS rs u := ⟨_, rfl⟩
    have hlm : ∀ s, s ∈ l → s.2.length < 1099511627776 := fun s hs => by
      rw [hl] at hs
      have := step_len hs
      omega
    rw [← hl] at q6 hal ⊢
    refine AW_loopW (maskG 98 [0, 5, 1, 0, 37, 0, 0]) (fun (q : Nat × GrP) => [(49, .int .i64 q.1)]) (fun q => H ++ [.grow 25 3 (flat (encTs q.2.ts)), gTok 117 4 (encL encE q.2.es), .cells [.str t.name, .bool t.var, .sl .none (encTs t.args)], .cells [.sl .zero [], .sl .zero [], .bool false], .map q.2.ts.length (mapT q.2.ts), .cells [.gr H.length q.2.ts.length, gSl (H.length + 1) (encL encE q.2.es), .bool q.2.wh, .map (H.length + 4), .int .i64 (most : Nat)]]) (fun q => q.1 ≤ l.length ∧ GOk most i q.1 u q.2 ∧ exRow rs most i u g l = exRow rs most i u q.2 (l.drop q.1)) (fun q => l.length - q.1) (0, g) ⟨Nat.zero_le _, ⟨q3, q4, by simpa using q5, hut⟩, by simp⟩ (by simp only [push_cast, Nat.reduceAdd, Nat.reduceSub, Nat.reduceMul, Nat.reduceLT, Nat.reduceLeDiff, Nat.reduceEqDiff, Int.reduceToNat, ↓reduceIte]; exact ok_ex H t most g) (fun q hq => ?_)
    obtain ⟨j, g'⟩ := q
    obtain ⟨p1, p2, p3⟩ := hq
    simp only at p1 p2 p3
    have hil' : i < g'.ts.length := (List.getElem?_eq_some_iff.1 p2.at').1
    have hgu : g'.ts[i]'hil' = u := (List.getElem?_eq_some_iff.1 p2.at').2
    have hfl' := flT_len g'.ts
    have hfg' := flT_get g'.ts i hil'
    rw [hgu] at hfg'
    simp only [push_cast, Nat.reduceAdd, Nat.reduceSub, Nat.reduceMul, Nat.reduceLT, Nat.reduceLeDiff, Nat.reduceEqDiff, Int.reduceToNat, ↓reduceIte]
    refine cI (fun h3 => ?_) (fun h3 => ?_)
    · have hjl : j < l.length := by omega
      obtain ⟨s, hs⟩ : ∃ s, s = l[j]'hjl := ⟨_, rfl⟩
      have hsm := hlm _ (List.getElem_mem hjl)
      rw [List.drop_eq_getElem_cons hjl, ← hs] at p3
      refine ⟨hjl, ?_⟩
      rw [← hs] at hsm ⊢
      have hdo := fun X => do_ac rs hr u huc s hsm X
      apply AW_drawE [some 54, some 55, some 56, some 57, some 58, some 59, some 60, some 61, some 62, some 63, some 64, some 53, some 65, some 66, some 12, none, some 13] [([false, false], _), ([true, false], _), ([true, true], _)] [none, none, none, none, none, none, none, none, none, none, none, none, none, none, some 0, some 1, none] 2 [(0, [false, false], [0]), (1, [false, false], [8]), (2, [false, false], [55]), (3, [false, false], [56]), (4, [false, false], [57]), (5, [false, false], [58]), (6, [false, false], [9]), (7, [false, false], [59, 0]), (8, [false, false], [61]), (9, [false, false], [11]), (10, [false, false], [54, 7, 0]), (11, [false, false], [64]), (12, [false, false], [53]), (13, [false, false], [53]), (14, [false, false], []), (15, [true, false], [12, 52]), (16, [true, true], [66]), (0, [true, false], [0]), (1, [true, false], [8]), (2, [true, false], [55]), (3, [true, false], [56]), (4, [true, false], [57]), (5, [true, false], [58]), (6, [true, false], [9]), (7, [true, false], [59, 0]), (8, [true, false], [61]), (9, [true, false], [11]), (10, [true, false], [54, 7, 0]), (11, [true, false], [64]), (12, [true, false], [53]), (13, [true, false], [53]), (13, [true, true], [53])] [_, _, _, _, _, _, _, _, _, _, _, _, _, _, _, _, _]
      case' hm => exact dr
      case' hn => rfl
      case' hok => rfl
      case' hlen => rfl
      case' hd => rfl
      case' h0 => rfl
      case' hstep =>
       simp only [DAllG, push_cast, Option.isSome_some, Option.isSome_none]
       repeat' apply And.intro
       all_goals (apply DOne_V; simp only [push_cast, Nat.reduceAdd, Nat.reduceSub, Nat.reduceMul, Nat.reduceLT, Nat.reduceLeDiff, Nat.reduceEqDiff, Int.reduceToNat, ↓reduceIte, hfl', hfg'] <;> first | exact rfl | omega | exact ⟨rfl, rfl⟩ | exact trivial | exact ⟨by omega, rfl⟩ | exact ⟨by omega, by omega, rfl⟩ | exact ⟨by omega, rfl, rfl⟩ | exact ⟨by omega, by omega, rfl, rfl⟩ | exact ⟨rfl, by omega, by omega, by omega, rfl⟩ | (refine (hdo _).to ?_; exact ⟨rfl, rfl⟩) | trace_state)
      case' hQ => skip
      simp only [push_cast, Nat.reduceAdd, Nat.reduceSub, Nat.reduceMul, Nat.reduceLT, Nat.reduceLeDiff, Nat.reduceEqDiff, Int.reduceToNat, ↓reduceIte]
      have hgs := fun h => p2.step hr huc (s := s) h
      refine cI (fun h4 => ?_) (fun h4 => ?_)
      · have hu2 := do_check (s := s) hr huc h4
        rw [exRow, if_neg (by simpa using h4)] at p3
        obtain ⟨v, hv⟩ : ∃ v, v = (doE rs u s).1 := ⟨_, rfl⟩
        have hgs := hgs h4
        rw [← hv] at hu2 p3 hgs ⊢
        have hvs := check_small hu2
        have hel := hgs.es
        refine (add2_ac H (.cells [.str t.name, .bool t.var, .sl .none (encTs t.args)]) (.cells [.sl .zero [], .sl .zero [], .bool false]) (.cells [.int .i64 s.1, .sl .none (encP s.2)]) (.cells [.str v.name, .bool v.var, .sl .none (encTs v.args)]) most g'.ts g'.es g'.wh v (fun x hx => ((check_iff x).1 (p2.ck x hx)).1) ((check_iff v).1 hu2).1 (by omega) (by have := p2.len; omega)).to ?_
        simp only [push_cast, Nat.reduceAdd, Nat.reduceSub, Nat.reduceMul, Nat.reduceLT, Nat.reduceLeDiff, Nat.reduceEqDiff, Int.reduceToNat, ↓reduceIte]
        refine cI (fun h5 => ?_) (fun h5 => ?_)
        · have hes : (exStep most i g' s v).es = g'.es ++ [⟨i, (addR most g'.ts v).1, s⟩] := by unfold exStep; rw [h5]; rfl
          have hel2 := p2.es
          apply AW_drawE [some 78, some 79, some 80, some 81, some 82, some 83, some 84, some 85, some 86, some 87, some 88, some 89, some 90, some 91, some 92, none] [([false, false], _), ([true, false], _), ([true, true], _)] [none, none, none, none, none, none, none, none, none, none, none, some 0, none, none, none, some 1] 2 [(0, [false, false], [8]), (1, [false, false], [8]), (2, [false, false], [79]), (3, [false, false], [80]), (4, [false, false], [81]), (5, [false, false], [82]), (6, [false, false], [9]), (7, [false, false], [14]), (8, [false, false], [11]), (9, [false, false], [84, 0, 0]), (10, [false, false], [87]), (11, [false, false], [83, 4]), (12, [true, false], [78]), (13, [true, false], [90]), (14, [true, false], [91]), (15, [true, false], [89, 2]), (0, [true, false], [8]), (1, [true, false], [8]), (2, [true, false], [79]), (3, [true, false], [80]), (4, [true, false], [81]), (6, [true, false], [9]), (7, [true, false], [14]), (8, [true, false], [11]), (9, [true, false], [84, 0, 0]), (12, [true, true], [78]), (13, [true, true], [90])] [_, _, _, _, _, _, _, _, _, _, _, _, _, _, _, _]
          case' hm => exact dr
          case' hn => rfl
          case' hok => rfl
          case' hlen => rfl
          case' hd => rfl
          case' h0 => rfl
          case' hstep =>
           simp only [DAllG, push_cast, Option.isSome_some, Option.isSome_none]
           repeat' apply And.intro
           all_goals (apply DOne_V; simp only [push_cast, Nat.reduceAdd, Nat.reduceSub, Nat.reduceMul, Nat.reduceLT, Nat.reduceLeDiff, Nat.reduceEqDiff, Int.reduceToNat, ↓reduceIte] <;> first | exact rfl | omega | exact ⟨rfl, rfl⟩ | exact trivial | exact ⟨by omega, rfl⟩ | exact ⟨by omega, by omega, rfl⟩ | exact ⟨by omega, rfl, rfl⟩ | exact ⟨by omega, by omega, rfl, rfl⟩ | (refine app1_L encE (sz := 4) (fun _ => rfl) (by intro x c hc; simp [AV.cells] at hc; rcases hc with rfl | rfl | rfl | rfl <;> rfl) _ (H.length + 1) g'.es ⟨i, (addR most g'.ts v).1, s⟩ _ rfl rfl (by exact (agetN _ _ 1).trans rfl) sl67 sz117 by117 zr117 rfl (by decide) (by decide) (by omega) ?_; exact ⟨rfl, rfl⟩) | trace_state)
          case' hQ => skip
          simp only [push_cast, Nat.reduceAdd, Nat.reduceSub, Nat.reduceMul, Nat.reduceLT, Nat.reduceLeDiff, Nat.reduceEqDiff, Int.reduceToNat, ↓reduceIte]
          repeat' first | refine ⟨by omega, ?_⟩ | refine cI (fun _ => ?_) (fun _ => ?_)
          refine loopW_n (j + 1, exStep most i g' s v) ⟨by simp only; omega, hgs, p3⟩ (by simp only; omega) ?_
          rw [hes]
          simp only [push_cast, Nat.reduceAdd, Nat.reduceSub, Nat.reduceMul, Nat.reduceLT, Nat.reduceLeDiff, Nat.reduceEqDiff, Int.reduceToNat, ↓reduceIte]
          exact ⟨⟨rfl, rfl, rfl⟩, ok_exX H t most _ _ _ _⟩
        · have hes : (exStep most i g' s v).es = g'.es := by unfold exStep; rw [Bool.eq_false_iff.2 h5]; rfl
          repeat' first | refine ⟨by omega, ?_⟩ | refine cI (fun _ => ?_) (fun _ => ?_)
          refine loopW_n (j + 1, exStep most i g' s v) ⟨by simp only; omega, hgs, p3⟩ (by simp only; omega) ?_
          rw [hes]
          simp only [push_cast, Nat.reduceAdd, Nat.reduceSub, Nat.reduceMul, Nat.reduceLT, Nat.reduceLeDiff, Nat.reduceEqDiff, Int.reduceToNat, ↓reduceIte]
          exact ⟨⟨rfl, rfl, rfl⟩, ok_exX H t most _ _ _ _⟩
      · rw [exRow, if_pos h4] at p3
        rw [p3, if_pos h4] at q6
        rw [q6]
        exact ⟨ToA.fgt (by simp only [push_cast, Nat.reduceAdd, Nat.reduceSub, Nat.reduceMul, Nat.reduceLT, Nat.reduceLeDiff, Nat.reduceEqDiff, Int.reduceToNat, ↓reduceIte, encGE, zeroG, encTs_nil, encL_nil]), by simp only [push_cast, Nat.reduceAdd, Nat.reduceSub, Nat.reduceMul, Nat.reduceLT, Nat.reduceLeDiff, Nat.reduceEqDiff, Int.reduceToNat, ↓reduceIte, encGE, zeroG, encTs_nil, encL_nil]⟩
    · rw [List.drop_of_length_le (show l.length ≤ j by omega)] at p3
      rw [p3] at q6
      have hes := p2.es
      have hne : g'.ts ≠ [] := fun e => by rw [e] at hil'; exact absurd hil' (by simp)
      repeat' first | refine ⟨by omega, ?_⟩ | refine cI (fun _ => ?_) (fun _ => ?_)
      refine loopW_n (i + 1, g') ⟨by simp only; omega, hne, p2.len, p2.ck, by simp only; omega, ?_⟩ (by simp only; omega) ?_
      · rw [q6]
        simp only [exRow, ne_eq, not_true_eq_false, if_false]
        rw [show most - (i + 1) = n by omega]
      · simp only [push_cast, Nat.reduceAdd, Nat.reduceSub, Nat.reduceMul, Nat.reduceLT, Nat.reduceLeDiff, Nat.reduceEqDiff, Int.reduceToNat, ↓reduceIte]
        exact ok_ex H t most g'
  · have hie : i = g.ts.length := by omega
    rw [hie, expF_end] at q6
    rw [q6]
    simp only [push_cast, Nat.reduceAdd, Nat.reduceSub, Nat.reduceMul, Nat.reduceLT, Nat.reduceLeDiff, Nat.reduceEqDiff, Int.reduceToNat, ↓reduceIte, encGE]
    rw [grS_T H.length q2]
    exact ToA.rowA H.length 25 3 (by rw [← grO_T _ q2]; exact aget0 _ _ _) (by rw [hfl, encTs_length]) (Nat.le_refl _) (flT_sc _ _) (by simp only [push_cast, Nat.reduceAdd, Nat.reduceSub, Nat.reduceMul, Nat.reduceLT, Nat.reduceLeDiff, Nat.reduceEqDiff, Int.reduceToNat, ↓reduceIte]) (by simp only [push_cast, Nat.reduceAdd, Nat.reduceSub, Nat.reduceMul, Nat.reduceLT, Nat.reduceLeDiff, Nat.reduceEqDiff, Int.reduceToNat, ↓reduceIte])
end Ab
set_option maxRecDepth 100000
namespace Ab
open Go Go.Proofs
def exploreE (rs : List (Term × Term)) (t : Term) (most : Int) : GrP × Int := if bothP rs t ≠ 0 then (zeroG, bothP rs t) else if most < 1 ∨ 4096 < most then (zeroG, 2) else exploreF rs t most.toNat
theorem exploreX_ac (rs : List (Term × Term)) (hlen : rs.length < 1099511627776) (hb : BndR rs) (t : Term) (ht : t.bulk ≤ 1099511627775) (most : Int) (H : List AObj) :
    ACall Tryz.prog 37 [.sl .none (encL encRu rs), encT t, .int .i64 most] H (fun r H' => r = encGE (exploreE rs t most) ∧ H' = H) := by
  refine ACall_V (H.length) 26 [.cell 6 69, .tmp 7] Tryz.func37 rfl rfl rfl ?_
  simp only [push_cast, Nat.reduceAdd, Nat.reduceSub, Nat.reduceMul, Nat.reduceLT, Nat.reduceLeDiff, Nat.reduceEqDiff, Int.reduceToNat, ↓reduceIte]
  refine (both_ac rs hlen hb t ht _).to ?_
  simp only [push_cast, Nat.reduceAdd, Nat.reduceSub, Nat.reduceMul, Nat.reduceLT, Nat.reduceLeDiff, Nat.reduceEqDiff, Int.reduceToNat, ↓reduceIte]
  unfold exploreE
  refine cI (fun h => ?_) (fun h => ?_)
  · rw [if_neg (by simpa using h)]
    obtain ⟨h1, h2⟩ := both_ok h
    refine cI (fun h3 => ?_) (fun h3 => ?_)
    · rw [if_pos (.inl h3)]
      simp only [push_cast, Nat.reduceAdd, Nat.reduceSub, Nat.reduceMul, Nat.reduceLT, Nat.reduceLeDiff, Nat.reduceEqDiff, Int.reduceToNat, ↓reduceIte, encGE, zeroG, encTs_nil, encL_nil]
    · refine cI (fun h4 => ?_) (fun h4 => ?_)
      · rw [if_pos (.inr h4)]
        simp only [push_cast, Nat.reduceAdd, Nat.reduceSub, Nat.reduceMul, Nat.reduceLT, Nat.reduceLeDiff, Nat.reduceEqDiff, Int.reduceToNat, ↓reduceIte, encGE, zeroG, encTs_nil, encL_nil]
      · rw [if_neg (by omega)]
        have hmm : most = ((most.toNat : Nat) : Int) := by omega
        obtain ⟨m, hm⟩ : ∃ m, m = most.toNat := ⟨_, rfl⟩
        rw [← hm] at hmm ⊢
        subst hmm
        refine (explore_ac rs h1 t h2 m (by omega) (by omega) _).to ?_
        simp only [push_cast, Nat.reduceAdd, Nat.reduceSub, Nat.reduceMul, Nat.reduceLT, Nat.reduceLeDiff, Nat.reduceEqDiff, Int.reduceToNat, ↓reduceIte, encGE]
  · rw [if_pos h]
    simp only [push_cast, Nat.reduceAdd, Nat.reduceSub, Nat.reduceMul, Nat.reduceLT, Nat.reduceLeDiff, Nat.reduceEqDiff, Int.reduceToNat, ↓reduceIte, encGE, zeroG, encTs_nil, encL_nil]
def normsF (rs : List (Term × Term)) (ts : List Term) : List Term := ts.filter fun x => decide ((allS rs x).length = 0)
theorem normsF_snoc (rs : List (Term × Term)) (ts : List Term) (i : Nat) (h : i < ts.length) : normsF rs (ts.take (i + 1)) = normsF rs (ts.take i) ++ if (allS rs ts[i]).length = 0 then [ts[i]] else [] := by
  unfold normsF
  rw [List.take_succ_eq_append_getElem h, List.filter_append]
  congr 1
  by_cases hq : (allS rs ts[i]).length = 0
  · rw [if_pos hq, List.filter_cons, if_pos (by simpa using hq)]; rfl
  · rw [if_neg hq, List.filter_cons, if_neg (by simpa using hq)]; rfl
theorem gSl_tk2 (k : Nat) (xs : List AV) : ∃ tk, gSl k xs = .sl tk xs := by cases xs <;> exact ⟨_, rfl⟩
end Ab
set_option maxRecDepth 100000
namespace Ab
open Go Go.Proofs
def dxA : Term := .mk [97] false []
def dxB : Term := .mk [98] false []
def dxC : Term := .mk [99] false []
def dxR : List (Term × Term) := [(dxA, dxB), (dxA, dxC), (dxB, dxA)]
theorem dx_ck : checkP dxA = 0 ∧ checkP dxB = 0 ∧ checkP dxC = 0 := by
  have h1 : isNameP [97] true = true ∧ isNameP [98] true = true ∧ isNameP [99] true = true := by decide +kernel
  refine ⟨?_, ?_, ?_⟩ <;> rw [check_iff] <;> simp [dxA, dxB, dxC, formedP_mk, fitsP, Term.size_mk, Term.depth_mk, h1]
theorem dx_rules : rulesP dxR = 0 := by
  obtain ⟨h1, h2, h3⟩ := dx_ck
  simp [rulesP, dxR, rT, firstErr, h1, h2, h3]
theorem dx_nodes : nodesL (rT dxR) = [([97], 0), ([98], 0), ([97], 0), ([99], 0), ([98], 0), ([97], 0)] := by
  simp [dxR, rT, dxA, dxB, dxC, nodesL, ndT, Term.mk_name, Term.mk_var, Term.mk_args]
theorem dx_ar : arB dxR = false ∧ (arE dxR).2.any (fun s => markedP s.1) = false := by
  unfold arB arE
  rw [dx_nodes]
  decide +kernel
theorem dx_extra : dxR.any extraP = false := by
  simp [dxR, extraP, dxA, dxB, dxC, Term.mk_var, varsP, collectP_mk]
theorem dx_sys : sysP dxR = 0 := by
  unfold sysP
  rw [dx_rules, dx_ar.1, dx_ar.2, dx_extra]
  simp
theorem dx_both : bothP dxR dxA = 0 := by
  unfold bothP
  rw [dx_sys, dx_ck.1]
  simp
theorem dx_S : allS dxR dxA = [(0, []), (1, [])] ∧ allS dxR dxB = [(2, [])] ∧ allS dxR dxC = [] := by
  refine ⟨?_, ?_, ?_⟩ <;> simp [allS, allI, walkT, walkL, Term.args, dxR, atV, atF, dxA, dxB, dxC, matchP, matchTs_nil, clash, Term.mk_name, Term.mk_var, Term.mk_args]
theorem dx_do : doE dxR dxA (0, []) = (dxB, 0) ∧ doE dxR dxA (1, []) = (dxC, 0) ∧ doE dxR dxB (2, []) = (dxA, 0) := by
  have f1 : findE dxR dxA (0, []) = ([], 0) ∧ findE dxR dxA (1, []) = ([], 0) ∧ findE dxR dxB (2, []) = ([], 0) := by
    refine ⟨?_, ?_, ?_⟩ <;> simp [findE, dxR, atP, ruleN, dxA, dxB, dxC, matchP, matchTs_nil, clash, Term.mk_name, Term.mk_var, Term.mk_args]
  refine ⟨?_, ?_, ?_⟩
  · rw [do_alt, f1.1]
    have : rhsP dxR dxA (0, []) = dxB := by unfold rhsP; rw [f1.1]; simp [ruleN, dxR, dxB, applyP_mk]
    rw [this]
    simp [dxA, dxB, putP, fitsP, Term.size_mk, Term.depth_mk]
  · rw [do_alt, f1.2.1]
    have : rhsP dxR dxA (1, []) = dxC := by unfold rhsP; rw [f1.2.1]; simp [ruleN, dxR, dxC, applyP_mk]
    rw [this]
    simp [dxA, dxC, putP, fitsP, Term.size_mk, Term.depth_mk]
  · rw [do_alt, f1.2.2]
    have : rhsP dxR dxB (2, []) = dxA := by unfold rhsP; rw [f1.2.2]; simp [ruleN, dxR, dxA, applyP_mk]
    rw [this]
    simp [dxA, dxB, putP, fitsP, Term.size_mk, Term.depth_mk]
def dxG : GrP := ⟨[dxA, dxB, dxC], [⟨0, 1, (0, [])⟩, ⟨0, 2, (1, [])⟩, ⟨1, 0, (2, [])⟩], true⟩
theorem dx_ne : ¬ dxB = dxA ∧ ¬ dxC = dxA ∧ ¬ dxC = dxB ∧ ¬ dxA = dxB := by
  refine ⟨fun e => ?_, fun e => ?_, fun e => ?_, fun e => ?_⟩ <;> (have h := congrArg Term.name e; simp [dxA, dxB, dxC, Term.mk_name] at h)
theorem dx_ex : exploreF dxR dxA 10 = (dxG, 0) := by
  obtain ⟨s1, s2, s3⟩ := dx_S
  obtain ⟨d1, d2, d3⟩ := dx_do
  obtain ⟨n1, n2, n3, n4⟩ := dx_ne
  simp [exploreF, expF, s1, s2, s3, exRow, d1, d2, d3, exStep, addTs, addR, addW, n1, n2, n3, n4, dxG, List.idxOf_cons]
theorem dx_exE : exploreE dxR dxA 10 = (dxG, 0) := by
  unfold exploreE
  rw [dx_both]
  simpa using dx_ex
theorem dx_norm : normsF dxR dxG.ts = [dxC] := by
  obtain ⟨s1, s2, s3⟩ := dx_S
  simp [normsF, dxG, s1, s2, s3]
theorem dx_B : BndR dxR ∧ dxR.length = 3 ∧ dxA.bulk = 2 := by
  refine ⟨fun r hr => ?_, rfl, ?_⟩
  · simp only [dxR, List.mem_cons, List.not_mem_nil, or_false] at hr
    rcases hr with rfl | rfl | rfl <;> simp [dxA, dxB, dxC, Term.bulk_mk]
  · simp [dxA, Term.bulk_mk]
end Ab
set_option maxRecDepth 100000
namespace Ab
open Go Go.Proofs
theorem sameTerms_ac (a b : List Term) (h1 : a.length < 1099511627776) (h2 : b.length < 1099511627776) (h3 : ∀ x, x ∈ a → x.bulk ≤ 1099511627775) (h4 : ∀ x, x ∈ b → x.bulk ≤ 1099511627775) (H : List AObj) :
    ACall Tryz.prog 16 [.sl .none (encTs a), .sl .none (encTs b)] H (fun r H' => r = .bool (decide (a = b)) ∧ H' = H) := by
  refine ACall_V (H.length) 25 [.tmp 4] Tryz.func16 rfl rfl rfl ?_
  simp only [push_cast, Nat.reduceAdd, Nat.reduceSub, Nat.reduceMul, Nat.reduceLT, Nat.reduceLeDiff, Nat.reduceEqDiff, Int.reduceToNat, ↓reduceIte]
  refine cI (fun hl => ?_) (fun hl => ?_)
  · have hl : a.length = b.length := by omega
    refine AW_loopW (maskG 27 [0, 0, 10, 0]) (fun (i : Nat) => [(13, .int .i64 i)]) (fun _ => H) (fun i => i ≤ a.length ∧ a.take i = b.take i) (fun i => a.length - i) 0 ⟨Nat.zero_le _, rfl⟩ (by simp only [push_cast, Nat.reduceAdd, Nat.reduceSub, Nat.reduceMul, Nat.reduceLT, Nat.reduceLeDiff, Nat.reduceEqDiff, Int.reduceToNat, ↓reduceIte]) (fun i hi => ?_)
    simp only [push_cast, Nat.reduceAdd, Nat.reduceSub, Nat.reduceMul, Nat.reduceLT, Nat.reduceLeDiff, Nat.reduceEqDiff, Int.reduceToNat, ↓reduceIte]
    refine cI (fun h => ?_) (fun h => ?_)
    · repeat refine ⟨by omega, ?_⟩
      have hia : i < a.length := by omega
      have hib : i < b.length := by omega
      have heq := fun X => equalR_ac (a[i]'hia) (b[i]'hib) (h3 _ (List.getElem_mem hia)) (h4 _ (List.getElem_mem hib)) X
      apply AW_drawE [some 16, some 17, some 18, some 19, some 20, some 21, some 22, some 23, some 24, some 25] [([], _)] [none, none, none, none, none, none, none, none, none, none] 0 [(0, [], [0]), (1, [], [5]), (2, [], [16, 0]), (3, [], [18]), (4, [], [1]), (5, [], [5]), (6, [], [20, 0]), (7, [], [22]), (8, [], [19, 3]), (9, [], [24])] [_, _, _, _, _, _, _, _, _, _]
      case' hm => exact dr
      case' hn => rfl
      case' hok => rfl
      case' hlen => rfl
      case' hd => rfl
      case' h0 => rfl
      case' hstep =>
       simp only [DAllG, push_cast, Option.isSome_some, Option.isSome_none]
       repeat' apply And.intro
       all_goals (apply DOne_V; simp only [push_cast, Nat.reduceAdd, Nat.reduceSub, Nat.reduceMul, Nat.reduceLT, Nat.reduceLeDiff, Nat.reduceEqDiff, Int.reduceToNat, ↓reduceIte] <;> first | exact rfl | omega | exact ⟨rfl, rfl⟩ | exact trivial | exact ⟨by omega, rfl⟩ | exact ⟨by omega, by omega, rfl⟩ | exact ⟨by omega, rfl, rfl⟩ | exact ⟨by omega, by omega, rfl, rfl⟩ | exact ⟨by omega, trivial⟩ | (refine (heq _).to ?_; exact ⟨rfl, rfl⟩))
      case' hQ => skip
      simp only [push_cast, Nat.reduceAdd, Nat.reduceSub, Nat.reduceMul, Nat.reduceLT, Nat.reduceLeDiff, Nat.reduceEqDiff, Int.reduceToNat, ↓reduceIte]
      refine cI (fun he => ?_) (fun he => ?_)
      · repeat' first | refine ⟨by omega, ?_⟩ | refine cI (fun _ => ?_) (fun _ => ?_)
        refine loopW_n (i + 1) ⟨by omega, ?_⟩ (by omega) (by simp only [push_cast, Nat.reduceAdd, Nat.reduceSub, Nat.reduceMul, Nat.reduceLT, Nat.reduceLeDiff, Nat.reduceEqDiff, Int.reduceToNat, ↓reduceIte])
        rw [List.take_succ_eq_append_getElem hia, List.take_succ_eq_append_getElem hib, hi.2, he]
      · have hne : a ≠ b := fun e => he (by subst e; rfl)
        simp [hne]
    · have e := hi.2
      rw [List.take_of_length_le (by omega), List.take_of_length_le (by omega)] at e
      simp [e]
  · have hne : a ≠ b := fun e => hl (by rw [e])
    simp [hne]
theorem constant_ac (s : List UInt8) (H : List AObj) : ACall Tryz.prog 50 [.str s] H (fun r H' => r = encT (.mk s false []) ∧ H' = H) := by
  refine ACall_V (H.length) 4 [.cell 2 25] Tryz.func50 rfl rfl rfl ?_
  simp only [push_cast, Nat.reduceAdd, Nat.reduceSub, Nat.reduceMul, Nat.reduceLT, Nat.reduceLeDiff, Nat.reduceEqDiff, Int.reduceToNat, ↓reduceIte]
theorem enc_c (s : List UInt8) : encT (.mk s false []) = .agg [.str s, .bool false, .sl .none []] := by
  have h : encTs (Term.mk s false []).args = [] := encTs_nil
  simp only [encT, h]; rfl
theorem enc_dxR : encL encRu dxR = [AV.agg [.str [97], .bool false, .sl .none [], .str [98], .bool false, .sl .none []], .agg [.str [97], .bool false, .sl .none [], .str [99], .bool false, .sl .none []], .agg [.str [98], .bool false, .sl .none [], .str [97], .bool false, .sl .none []]] := by
  have h : ∀ s, encTs (Term.mk s false []).args = [] := fun s => encTs_nil
  simp only [encL, dxR, List.map_cons, List.map_nil, encRu, dxA, dxB, dxC, h, Term.mk_name, Term.mk_var]
end Ab
set_option maxRecDepth 10000
namespace Ab
open Go Go.Proofs
def ChB (c : Term × List (Int × List Int)) : Prop := c.1.bulk ≤ 1099511627775 ∧ c.2.length < 1099511627776 ∧ ∀ x, x ∈ c.2 → x.2.length < 1099511627776
end Ab
set_option maxRecDepth 100000
namespace Ab
open Go Go.Proofs
def findI (ts : List Term) (u : Term) : Int := if u ∈ ts then ((ts.idxOf u : Nat) : Int) else -1
theorem idx_at {ts : List Term} {u : Term} {i : Nat} (h : i < ts.length) (h1 : ts[i] = u) (h2 : ∀ x, x ∈ ts.take i → ¬ x = u) : findI ts u = (i : Int) := by
  have hm : u ∈ ts := by rw [← h1]; exact List.getElem_mem h
  have e : ts = ts.take i ++ u :: ts.drop (i + 1) := by rw [← h1, ← List.drop_eq_getElem_cons h, List.take_append_drop]
  have hn : u ∉ ts.take i := fun hh => h2 u hh rfl
  have hx : (ts.take i ++ u :: ts.drop (i + 1)).idxOf u = i := by
    rw [List.idxOf_append, if_neg hn]
    simp
    omega
  unfold findI
  rw [if_pos hm]
  rw [← e] at hx
  rw [hx]
theorem findR_ac (ts : List Term) (u : Term) (hl : ts.length < 1099511627776) (hb : ∀ x, x ∈ ts → x.bulk ≤ 1099511627775) (hu : u.bulk ≤ 1099511627775) (H : List AObj) :
    ACall Tryz.prog 35 [.sl .none (encTs ts), encT u] H (fun r H' => r = .int .i64 (findI ts u) ∧ H' = H) := by
  refine ACall_V (H.length) 17 [.tmp 4] Tryz.func35 rfl rfl rfl ?_
  simp only [push_cast, Nat.reduceAdd, Nat.reduceSub, Nat.reduceMul, Nat.reduceLT, Nat.reduceLeDiff, Nat.reduceEqDiff, Int.reduceToNat, ↓reduceIte]
  refine AW_loopW (maskG 19 [0, 2, 3, 0]) (fun (i : Nat) => [(8, .int .i64 i)]) (fun _ => H ++ [.cells [.str u.name, .bool u.var, .sl .none (encTs u.args)]]) (fun i => i ≤ ts.length ∧ ∀ x, x ∈ ts.take i → ¬ x = u) (fun i => ts.length - i) 0 ⟨Nat.zero_le _, by simp⟩ (by simp only [push_cast, Nat.reduceAdd, Nat.reduceSub, Nat.reduceMul, Nat.reduceLT, Nat.reduceLeDiff, Nat.reduceEqDiff, Int.reduceToNat, ↓reduceIte]) (fun i hi => ?_)
  obtain ⟨hi1, hi2⟩ := hi
  simp only [push_cast, Nat.reduceAdd, Nat.reduceSub, Nat.reduceMul, Nat.reduceLT, Nat.reduceLeDiff, Nat.reduceEqDiff, Int.reduceToNat, ↓reduceIte]
  refine cI (fun h => ?_) (fun h => ?_)
  · have hil : i < ts.length := by omega
    have heq := fun X => equalR_ac (ts[i]'hil) u (hb _ (List.getElem_mem hil)) hu X
    apply AW_drawE [some 11, some 12, some 13, some 14, some 15, some 16] [([], _)] [none, none, none, none, none, none] 0 [(0, [], [0]), (1, [], [5]), (2, [], [11, 0]), (3, [], [13]), (4, [], [3]), (5, [], [14, 0])] [_, _, _, _, _, _]
    case' hm => exact dr
    case' hn => rfl
    case' hok => rfl
    case' hlen => rfl
    case' hd => rfl
    case' h0 => rfl
    case' hstep =>
     simp only [DAllG, push_cast, Option.isSome_some, Option.isSome_none]
     repeat' apply And.intro
     all_goals (apply DOne_V; simp only [push_cast, Nat.reduceAdd, Nat.reduceSub, Nat.reduceMul, Nat.reduceLT, Nat.reduceLeDiff, Nat.reduceEqDiff, Int.reduceToNat, ↓reduceIte] <;> first | exact rfl | omega | exact ⟨rfl, rfl⟩ | exact trivial | exact ⟨by omega, rfl⟩ | exact ⟨by omega, by omega, rfl⟩ | exact ⟨by omega, rfl, rfl⟩ | exact ⟨by omega, by omega, rfl, rfl⟩ | exact ⟨by omega, trivial⟩ | (refine (heq _).to ?_; exact ⟨rfl, rfl⟩))
    case' hQ => skip
    simp only [push_cast, Nat.reduceAdd, Nat.reduceSub, Nat.reduceMul, Nat.reduceLT, Nat.reduceLeDiff, Nat.reduceEqDiff, Int.reduceToNat, ↓reduceIte]
    refine cI (fun h1 => ?_) (fun h1 => ?_)
    · rw [idx_at hil h1 hi2]
    · repeat' first | refine ⟨by omega, ?_⟩ | refine cI (fun _ => ?_) (fun _ => ?_)
      refine loopW_n (i + 1) ⟨by omega, fun x hx => ?_⟩ (by omega) (by simp only [push_cast, Nat.reduceAdd, Nat.reduceSub, Nat.reduceMul, Nat.reduceLT, Nat.reduceLeDiff, Nat.reduceEqDiff, Int.reduceToNat, ↓reduceIte])
      rw [List.take_succ_eq_append_getElem hil] at hx
      rcases List.mem_append.1 hx with hx | hx
      · exact hi2 x hx
      · rw [List.mem_singleton] at hx; rw [hx]; exact h1
  · rw [List.take_of_length_le (show ts.length ≤ i by omega)] at hi2
    unfold findI
    rw [if_neg (fun hm => hi2 u hm rfl)]
end Ab
set_option maxRecDepth 10000
namespace Ab
open Go Go.Proofs
section
variable {P : Program} {ro : Option Nat} {H0 : List AObj} {Q : Exit → ASt → Prop} {st : ASt} {K : AV → List AObj → Prop} {dst : Option Tmp} {ty : TypeId} {pos : String} {after : Array Edge} {guard : Option (Nat × Bool)}
inductive ToJ (m : Nat) (h : List AObj) : AV → AV → Prop
  | fgt {r v : AV} (hf : fgtW r v) : ToJ m h r v
  | row (k e sz : Nat) {xs a a' b b' c c' : List AV} (hk : h[k]? = some (grO e sz xs)) (hl : (flat xs).length = xs.length * sz) (hm : m ≤ k) (hsc : ScopedL m (flat xs)) (ha : fgtL a a') (hb : fgtL b b') (hc : fgtL c c') : ToJ m h (.tup (.agg (a ++ grS k xs :: b) :: c)) (.tup (.agg (a' ++ .sl .none xs :: b') :: c'))
def finJJ (H : List AObj) (m : Nat) (v : AV) (H1 h : List AObj) (r : AV) : Prop := OutOk H h m ∧ ToJ m h r v ∧ Scoped m v ∧ h.take m = H1
def finVJ (P : Program) (H : List AObj) (m : Nat) (v : AV) (H1 : List AObj) (rs : List ResultVar) : Exit → ASt → Prop
  | .normal, st => finR P rs st (finJJ H m v H1 st.heap)
  | .ret, st => finR P rs st (finJJ H m v H1 st.heap)
  | _, _ => False
end
section rules
variable {P : Program} {st : ASt}
theorem finVJ_n {H H1 : List AObj} {m : Nat} {v : AV} {rs : List ResultVar} : finVJ P H m v H1 rs .normal st = finR P rs st (finJJ H m v H1 st.heap) := (rfl)
theorem finVJ_r {H H1 : List AObj} {m : Nat} {v : AV} {rs : List ResultVar} : finVJ P H m v H1 rs .ret st = finR P rs st (finJJ H m v H1 st.heap) := (rfl)
end rules
attribute [push_cast] finVJ_n finVJ_r finJJ
end Ab
set_option maxRecDepth 10000
namespace Ab
open Go Go.Proofs
inductive Pure : AV → Prop
  | junk : Pure .junk
  | bool (b : Bool) : Pure (.bool b)
  | int (k : IntKind) (n : Int) : Pure (.int k n)
  | str (s : List UInt8) : Pure (.str s)
  | sl (xs : List AV) (h : ∀ j (hj : j < (flat xs).length), Pure (flat xs)[j]) : Pure (.sl .none xs)
theorem VRel.pure {C C' : Ctx} (hc : ∀ b o, o < C.S b → o < C'.S b ∧ C'.w.cell? ⟨b, o, none⟩ = C.w.cell? ⟨b, o, none⟩) {v : AV} {x : Value} (h : VRel C v x) : Pure v → VRel C' v x := by
  induction h with
  | junk v => intro _; exact .junk v
  | bool b => intro _; exact .bool b
  | int k n => intro _; exact .int k n
  | str s => intro _; exact .str s
  | sl t xs a n c f hn hcn hrow hrel htok ih =>
    intro hp
    cases hp with
    | sl _ hp =>
      exact .sl .none xs a n c f hn hcn (fun hne => let ⟨b, o, ha, hr⟩ := hrow hne; ⟨b, o, ha, fun j hj => ⟨(hc _ _ (hr j hj).1).1, (hc _ _ (hr j hj).1).2.trans (hr j hj).2⟩⟩) (fun j h => ih j h (hp j h)) trivial
  | arr id off len c hk hc => intro hp; cases hp
  | gr id n a c hg => intro hp; cases hp
  | gptr id n off a hg => intro hp; cases hp
  | ptr id off hk => intro hp; cases hp
  | cptr cs b o f hrow hrel ih => intro hp; cases hp
  | map id hk => intro hp; cases hp
  | iter id hk => intro hp; cases hp
  | fn g caps vs hsz hrel ih => intro hp; cases hp
  | yld id hk => intro hp; cases hp
  | agg cs vs hsz hrel ih => intro hp; cases hp
  | tup cs vs hsz hrel ih => intro hp; cases hp
  | lit v => intro hp; cases hp
theorem world_grown {w w' : World} (h1 : w'.os = w.os) (h2 : w'.tape = w.tape) (h3 : w'.output = w.output) (h4 : w.drawn ≤ w'.drawn) (h5 : w.heap.size ≤ w'.heap.size) (h6 : ∀ b, b < w.heap.size → w'.heap[b]? = w.heap[b]?) :
    ∃ q os, w' = Go.Sort.grow (w.drewN q) os := by
  refine ⟨w'.drawn - w.drawn, w'.heap.extract w.heap.size w'.heap.size, ?_⟩
  have hh : w'.heap = w.heap ++ w'.heap.extract w.heap.size w'.heap.size := by
    apply Array.ext_getElem?
    intro b
    by_cases hb : b < w.heap.size
    · rw [Array.getElem?_append_left hb]; exact h6 b hb
    · rw [Array.getElem?_append_right (by omega), Array.getElem?_extract]
      split
      · congr 1; omega
      · rw [Array.getElem?_eq_none (by omega)]
  have hd : w'.drawn = w.drawn + (w'.drawn - w.drawn) := by omega
  cases w with
  | mk a1 a2 a3 a4 a5 =>
    cases w' with
    | mk b1 b2 b3 b4 b5 =>
      simp only at h1 h2 h3 hh hd
      subst h1 h2 h3
      simp only [Go.Sort.grow, World.drewN]
      congr 1
theorem sortP {P : Program} {ρ : Go.Shelf.Ren} {β : Type} (L : SlLaysF0.n6 P ρ) (k : Nat) (hk0 : 0 < k) (aE : ∀ w, (isAgg (ρ.t 24)).run P w = .ok true w) (zE : ∀ w, (Go.sizeOf (ρ.t 24)).run P w = .ok k w)
    (encA : β → AV) (cs : β → List AV) (hea : ∀ x, encA x = .agg (cs x)) (hcl : ∀ x, (cs x).length = k) (hpc : ∀ x c, c ∈ cs x → Pure c ∧ c.isCell = true)
    (cf : β → β → Int) (hO : Go.Sort.SWO (ltOf cf)) (g : Nat) (eg : ∀ args w, (callFunc g args).run P w = .ok (.enter g args) w)
    (id : Nat) (xs : List β) (hcalls : ∀ x, x ∈ xs → ∀ y, y ∈ xs → ACall P g [encA x, encA y] [] (fun r H' => r = .int .i64 (cf x y) ∧ H' = []))
    (e : TypeId) (hlen : xs.length < 1099511627776) (H : List AObj) (hkH : H[id]? = some (grO e k (encL encA xs))) :
    ACall P (ρ.f 6) [grS id (encL encA xs), .fn g []] H (fun r H' => ∃ xs', xs.Perm xs' ∧ xs'.Pairwise (fun a b => ¬ cf b a < 0) ∧ r = .tup [] ∧ H' = H.set id (grO e k (encL encA xs'))) := by
  have hu : ∀ x, (encA x).cells.length = k := fun x => by rw [hea]; exact hcl x
  have hcell : ∀ x c, c ∈ (encA x).cells → c.isCell = true := fun x c h => by rw [hea] at h; exact (hpc x c h).2
  intro C vs hg hH hsz hv
  match vs, hsz, hv with
  | ⟨[v, fv]⟩, _, hv =>
    have h0 := hv 0 (by simp) (by simp)
    have hf := hv 1 (by simp) (by simp)
    simp only [List.getElem_cons_zero, List.getElem_cons_succ] at h0 hf
    have htup : ∀ C' : Ctx, VRel C' (.tup []) (.tuple #[]) := fun C' => .tup [] #[] rfl (fun i h => absurd h (by simp))
    have hfv : fv = .func (.func g) #[] #[] := by
      cases hf with
      | fn _ _ us hs _ =>
        have : us = #[] := Array.eq_empty_of_size_eq_zero hs
        rw [this]
    subst hfv
    cases xs with
    | nil =>
      have h0' : VRel C (.sl .zero []) v := h0
      have hset : H.set id (grO e k (encL encA [])) = H := by
        apply List.ext_getElem?
        intro i
        rw [List.getElem?_set]
        split
        · rename_i h; subst h
          have hl := (List.getElem?_eq_some_iff.1 hkH).1
          simp only [hl, if_true]; exact hkH.symm
        · rfl
      cases h0' with
      | sl _ _ a n c f hn hc hrow hrel htok =>
        subst hn
        refine (show Calls P (ρ.f 6) #[.slice a 0 c, .func (.func g) #[] #[]] C.w (fun e w' => e = .returned (.tuple #[]) ∧ w' = C.w) from AnyF.slices_SortFunc_none L a c _ C.w).mono fun e w' ⟨he, hw⟩ => ?_
        subst hw
        exact ⟨_, .tup [], C, he, rfl, hg, Ext.refl C, htup C, [], List.Perm.refl _, List.Pairwise.nil, rfl, by rw [hset]; exact hH⟩
    | cons s ss' =>
      have hlf : ∀ l : List β, (flat (encL encA l)).length = l.length * k := fun l => by rw [flat_length (uni_encL (enc := encA) (k := k) hu l), encL_length]
      have h0' : VRel C (.gr id (encL encA (s :: ss')).length) v := h0
      have hkC : C.H[id]? = some (.grow e k (flat (encL encA (s :: ss')))) := by rw [hH, hkH]; rfl
      have hne : s :: ss' ≠ [] := by simp
      generalize s :: ss' = xs at *
      have hxl : 0 < xs.length := List.length_pos_iff.2 hne
      cases h0' with
      | gr _ _ ad c hgr =>
        obtain ⟨e', sz', vs', hk2, _, _, hr⟩ := hgr
        rw [hkC] at hk2
        injection hk2 with hk2; injection hk2 with q1 q2 q3
        subst q1 q2 q3
        rw [encL_length] at hr ⊢
        obtain ⟨cur, rfl, hb, hcm, hc1, hcs⟩ := hr (hlf xs).symm
        obtain ⟨cur2, hb2, hfit, hS, hrel⟩ := hg.obj id _ hkC
        rw [hb] at hb2
        injection hb2 with hb2; injection hb2 with hb2 _ _
        subst hb2
        rw [hlf] at hfit
        have hpos : ∀ i j, i < xs.length → j < k → i * k + j < xs.length * k := fun i j hi hj => by
          have := Nat.mul_le_mul_right k (show i + 1 ≤ xs.length from hi)
          rw [Nat.add_mul] at this; omega
        have hlt := hg.lt id _ hkC (by simp [AObj.kind])
        have hcv : ∀ i j (hi : i < xs.length) (hj : j < k), VRel C ((encA xs[i]).cells[j]'(by rw [hu]; exact hj)) (cur[i * k + j]'(by have := hpos i j hi hj; omega)) := by
          intro i j hi hj
          have hp := hpos i j hi hj
          have h2 := (hrel (i * k + j) (by rw [hlf]; exact hp) (by omega)).1
          have h3 := flat_get (uni_encL (enc := encA) (k := k) hu xs) i j (by rw [encL_length]; exact hi) hj
          rw [List.getElem?_eq_getElem (by rw [hlf]; exact hp), encL_get, List.getElem?_eq_getElem (by rw [hu]; exact hj)] at h3
          injection h3 with h3
          rw [h3] at h2
          exact h2
        let α := Fin xs.length
        letI : Inhabited α := ⟨⟨0, hxl⟩⟩
        let enc : α → List Value := fun i => (List.range k).map fun j => cur[i.1 * k + j]!
        let abs : α → β := fun i => xs[i.1]'i.2
        have hk : ∀ a, (enc a).length = k := fun a => by simp [enc]
        have hev : ∀ (i : α) (j : Nat) (hj : j < k), (enc i)[j]'(by rw [hk]; exact hj) = cur[i.1 * k + j]'(by have := hpos i.1 j i.2 hj; omega) := fun i j hj => by
          have := hpos i.1 j i.2 hj
          simp only [enc, List.getElem_map, List.getElem_range]
          rw [getElem!_pos _ _ (by omega)]
        have h1 : ∀ a, ∀ v ∈ enc a, v.oneCell' = true := fun a v hv => by
          obtain ⟨j, hj, rfl⟩ := List.getElem_of_mem hv
          rw [hk] at hj
          rw [hev a j hj]
          exact (hcv a.1 j a.2 hj).oneCell (hcell _ _ (List.getElem_mem _))
        obtain ⟨fn, hfn0⟩ : ∃ fn : Fin xs.length → α, fn = _root_.id := ⟨_, rfl⟩
        have hfn : ∀ i : Fin xs.length, enc (fn i) = ((List.range k).map fun j => cur[i.1 * k + j]!) ∧ abs (fn i) = xs[i.1] := fun i => by rw [hfn0]; exact ⟨rfl, rfl⟩
        have hO' : Go.Sort.SWO (ltOf fun a b : α => cf (abs a) (abs b)) := ⟨fun x => hO.irrefl _, fun x y z => hO.trans _ _ _, fun x y z => hO.ntrans _ _ _⟩
        obtain ⟨d, hd⟩ : ∃ d : Array α, d = Array.ofFn fn := ⟨_, rfl⟩
        have hds : d.size = xs.length := by rw [hd]; simp
        have hdg : ∀ i (h : i < xs.length), d[i]! = fn ⟨i, h⟩ := fun i h => by rw [hd, getElem!_pos _ i (by simpa using h)]; simp
        have hdx : d.toList.map abs = xs := by
          apply List.ext_getElem
          · simp [hds]
          · intro i h1 h2
            have h3 : i < d.size := by simpa using h1
            simp only [List.getElem_map, Array.getElem_toList]
            rw [← getElem!_pos d i h3, hdg i h2]
            exact (hfn ⟨i, h2⟩).2
        have hHolds : Go.Sort.HoldsK enc k C.w (C.μ id) 0 d := fun t ht => by
          rw [Go.Sort.size_flatK, hds] at ht
          have hki : t / k < xs.length := Nat.div_lt_of_lt_mul (by rw [Nat.mul_comm]; exact ht)
          have hkj : t % k < k := Nat.mod_lt _ hk0
          have hsum : t / k * k + t % k = t := by rw [Nat.mul_comm]; exact Nat.div_add_mod t k
          have htc : t < cur.size := by omega
          refine ⟨?_, by simp [World.frozen?, hb]⟩
          rw [Go.Sort.get_flatK enc k d t (by rw [hds]; exact ht), hdg _ hki, (hfn ⟨t / k, hki⟩).1]
          simp only [Nat.zero_add, _root_.id]
          rw [getElem!_pos _ _ (by simpa using hkj)]
          simp only [List.getElem_map, List.getElem_range, hsum]
          simp [World.cell?, hb, htc]
        have hcmp : CmpLays P g #[] enc k (fun a b => cf (abs a) (abs b)) (C.μ id) 0 d.size C.w := fun m os dk hdk x y => by
          rw [Array.append_empty]
          obtain ⟨W, hW⟩ : ∃ W, W = sortWorldK enc k C.w (C.μ id) 0 m dk os := ⟨_, rfl⟩
          rw [← hW]
          have hWh : W.heap = C.w.heap.setIfInBounds (C.μ id) (.cells (Go.Sort.putCells _root_.id 0 (Go.Sort.flatK enc k dk) cur) e (0, 0)) ++ os := by
            rw [hW]
            show (Go.Sort.putRow _ _ _ _ _).heap ++ os = _
            rw [putRow_heapG _root_.id (Go.Sort.ahead C.w m) (C.μ id) 0 (Go.Sort.flatK enc k dk) cur e (0, 0) hb]
            rfl
          have hold : ∀ b, b < C.w.heap.size → b ≠ C.μ id → W.heap[b]? = C.w.heap[b]? := fun b hb hne => by
            rw [hWh, Array.getElem?_append_left (by simpa using hb), Array.getElem?_setIfInBounds_ne (Ne.symm hne)]
          have hsz0 : C.w.heap.size ≤ W.heap.size := by rw [hWh]; simp
          have hg0 : Good ⟨C.S, C.μ, [], W⟩ := by
            refine ⟨fun k o h => by simp at h, fun k o h => by simp at h, fun j k o o' h => by simp at h, fun b hb => hg.fresh b (Nat.le_trans hsz0 hb), fun ht => ?_⟩
            obtain ⟨⟨e1, fr, h1⟩, h2⟩ := hg.tab ht
            exact ⟨⟨e1, fr, (hold _ (Array.getElem?_eq_some_iff.1 h1).1 (fun ee => h2 id _ hkC (by simp [AObj.kind]) ee.symm)).trans h1⟩, fun k o h => by simp at h⟩
          have hpure : ∀ b o, o < C.S b → o < C.S b ∧ W.cell? ⟨b, o, none⟩ = C.w.cell? ⟨b, o, none⟩ := fun b o h =>
            ⟨h, cell_eq (hold b (hg.S_lt h) (fun ee => by rw [ee, hS] at h; omega))⟩
          have hagg : ∀ i : α, VRel ⟨C.S, C.μ, [], W⟩ (encA (abs i)) (.agg (enc i).toArray) := fun i => by
            rw [hea]
            refine .agg _ _ (by simp [hk, hcl]) (fun j hj => ?_)
            have hj' : j < k := by rw [hcl] at hj; exact hj
            have h7 := hcv i.1 j i.2 hj'
            have h8 : (encA xs[i.1]).cells[j]'(by rw [hu]; exact hj') = (cs (abs i))[j] := by
              simp only [hea]; rfl
            rw [h8] at h7
            have h9 : (enc i).toArray[j]'(by simp [hk, hj']) = cur[i.1 * k + j]'(by have := hpos i.1 j i.2 hj'; omega) := by
              rw [List.getElem_toArray]; exact hev i j hj'
            rw [h9]
            exact h7.pure (C' := ⟨C.S, C.μ, [], W⟩) hpure (hpc _ _ (List.getElem_mem _)).1
          have hac := hcalls (abs x) (List.getElem_mem _) (abs y) (List.getElem_mem _) ⟨C.S, C.μ, [], W⟩ #[.agg (enc x).toArray, .agg (enc y).toArray] hg0 rfl rfl (fun i h h' => by
            match i, h with
            | 0, _ => exact hagg x
            | 1, _ => exact hagg y)
          refine hac.mono ?_
          rintro e1 w1 ⟨v, r, C1, rfl, rfl, hg1, hx1, hv1, rfl, -⟩
          cases hv1
          exact ⟨rfl, world_grown hx1.os hx1.tape hx1.output hx1.drawn hx1.size (fun b hb => hx1.frame b hb (fun k o h => by simp at h))⟩
        have hcall := AnyQ.slices_SortFunc L k aE zE enc hk h1 (fun a b => cf (abs a) (abs b)) hO' g #[] (C.μ id) 0 c d C.w eg hcmp hHolds hlt (by omega)
        rw [hds] at hcall
        refine hcall.mono fun e2 w' ⟨he, d', q, os, hperm, hsort, hw⟩ => ?_
        subst hw
        have hd's : d'.size = xs.length := by rw [hperm.1, hds]
        have hpl : d'.toList.Perm d.toList := by
          have h5 := hperm.2.2
          rwa [← hds, ← hperm.1, Array.extract_size, hperm.1, Array.extract_size] at h5
        have hxl' : (d'.toList.map abs).length = xs.length := by simp [hd's]
        have hF : (Go.Sort.flatK enc k d').size = xs.length * k := by rw [Go.Sort.size_flatK, hd's]
        have hputs : (Go.Sort.putCells _root_.id 0 (Go.Sort.flatK enc k d') cur).size = cur.size := by simp [Go.Sort.putCells]
        have hheap := putRow_heapG _root_.id (Go.Sort.ahead C.w q) (C.μ id) 0 (Go.Sort.flatK enc k d') cur e (0, 0) hb
        obtain ⟨hg1, hx1⟩ := step_gr_in hg id (vs' := flat (encL encA (d'.toList.map abs))) hkC hb (w' := Go.Sort.putRowK enc k (Go.Sort.ahead C.w q) (C.μ id) 0 d') hheap ⟨rfl, rfl, rfl, by first | exact Nat.le_refl _ | exact Nat.le_add_right _ _⟩ hputs (by rw [hlf, hlf, hxl']; omega) rfl (fun hxx => by
          refine ⟨Go.Sort.putCells _root_.id 0 (Go.Sort.flatK enc k d') cur, by show (Go.Sort.putRow _ _ _ _ _).heap[_]? = _; rw [hheap]; simp [hlt, Go.Sort.ahead], by rw [hlf, hputs, hxl']; omega, hS, fun j hj hj' => ?_⟩
          rw [hlf, hxl'] at hj
          have hi : j / k < xs.length := Nat.div_lt_of_lt_mul (by rw [Nat.mul_comm]; exact hj)
          have hr : j % k < k := Nat.mod_lt _ hk0
          have hsum : j / k * k + j % k = j := by rw [Nat.mul_comm]; exact Nat.div_add_mod j k
          have hi' : j / k < d'.size := by omega
          have h3 := flat_get (uni_encL (enc := encA) (k := k) hu (d'.toList.map abs)) (j / k) (j % k) (by rw [encL_length, hxl']; exact hi) hr
          rw [hsum, List.getElem?_eq_getElem (by rw [hlf, hxl']; exact hj), encL_get, List.getElem?_eq_getElem (by rw [hu]; exact hr)] at h3
          injection h3 with h3
          rw [h3, putCells_getG _root_.id (Go.Sort.flatK enc k d') cur j (by rw [hF]; exact hj) hj']
          refine ⟨?_, hcell _ _ (List.getElem_mem _)⟩
          simp only [List.getElem_map, Array.getElem_toList, _root_.id]
          rw [← getElem!_pos (Go.Sort.flatK enc k d') j (by rw [hF]; exact hj), Go.Sort.get_flatK enc k d' j (by rw [hd's]; exact hj), getElem!_pos d' (j / k) hi']
          have hmem : d'[j / k] ∈ d.toList := hpl.subset (by simp)
          obtain ⟨i0, hi0, he0⟩ := List.getElem_of_mem hmem
          have hi0' : i0 < xs.length := by simpa [hds] using hi0
          have hd0 : d'[j / k] = fn ⟨i0, hi0'⟩ := by
            rw [← he0, Array.getElem_toList, ← getElem!_pos d i0 (by omega), hdg i0 hi0']
          have h7 := hfn ⟨i0, hi0'⟩
          rw [← hd0] at h7
          have h8 := (hcv i0 (j % k) hi0' hr).ext hxx
          have h9 : ((encA (abs d'[j / k])).cells[j % k]'(by rw [hu]; exact hr)) = (encA xs[i0]).cells[j % k]'(by rw [hu]; exact hr) := by simp only [h7.2]
          rw [h9, h7.1, getElem!_pos _ _ (by simpa using hr)]
          simp only [List.getElem_map, List.getElem_range]
          have hp := hpos i0 (j % k) hi0' hr
          rw [getElem!_pos cur _ (by omega)]
          exact h8)
        obtain ⟨hg2, hx2⟩ := step_more hg1 (Go.Sort.grow (Go.Sort.putRowK enc k (Go.Sort.ahead C.w q) (C.μ id) 0 d') os) os rfl ⟨rfl, rfl, rfl, by first | exact Nat.le_refl _ | exact Nat.le_add_right _ _⟩
        refine ⟨_, .tup [], _, he, rfl, hg2, hx1.trans hx2, htup _, d'.toList.map abs, ?_, ?_, rfl, ?_⟩
        · rw [← hdx]; exact (hpl.map abs).symm
        · rw [List.pairwise_map, List.pairwise_iff_getElem]
          intro i j hi hj hij
          have := hsort i j (Nat.zero_le _) hij (by simpa [hd's] using hj)
          rw [getElem!_pos d' j (by simpa using hj), getElem!_pos d' i (by simpa using hi)] at this
          simpa [ltOf] using this
        · have hgo : grO e k (encL encA (d'.toList.map abs)) = .grow e k (flat (encL encA (d'.toList.map abs))) := by
            cases hq : d'.toList.map abs with
            | nil => rw [hq] at hxl'; simp at hxl'; omega
            | cons a r => rfl
          rw [hgo, ← hH]
end Ab
set_option maxRecDepth 10000
namespace Ab
open Go Go.Proofs
theorem cb_asym {a b : List UInt8} (h : Lib.compareBytes a b < 0) : ¬ Lib.compareBytes b a < 0 := fun h2 => by
  have := cb_trans _ _ _ h h2
  rw [cb_self] at this; omega
theorem cmpC_lt (n : List UInt8) (v : Bool) (k : Nat) (m : List UInt8) (u : Bool) (j : Nat) (rest : Int) :
    cmpC n v k m u j rest < 0 ↔ (v = true ∧ u = false) ∨ (v = u ∧ (Lib.compareBytes n m < 0 ∨ (n = m ∧ (k < j ∨ (k = j ∧ rest < 0))))) := by
  unfold cmpC
  have h1 := compareBytes_eq n m
  by_cases hv : v = u
  · subst hv
    rw [if_neg (by simp)]
    by_cases hn : n = m
    · have h0 := h1.2 hn
      rw [if_neg (by simp [h0])]
      rcases Nat.lt_trichotomy k j with hk | hk | hk
      · simp [hk, hn, cb_self]
      · subst hk; simp [hn, cb_self]
      · have h3 : ¬ k < j := by omega
        have h4 : ¬ k = j := by omega
        simp [h3, h4, hk, hn, cb_self]
    · have h0 : ¬ Lib.compareBytes n m = 0 := fun e => hn (h1.1 e)
      rw [if_pos h0]
      simp [hn]
  · rw [if_pos hv]
    cases v <;> cases u <;> simp at hv ⊢
theorem cmpC_gt (n : List UInt8) (v : Bool) (k : Nat) (m : List UInt8) (u : Bool) (j : Nat) (rest rest' : Int) (hr : 0 < rest ↔ rest' < 0) :
    0 < cmpC n v k m u j rest ↔ cmpC m u j n v k rest' < 0 := by
  rw [cmpC_lt]
  unfold cmpC
  have h1 := compareBytes_eq n m
  by_cases hv : v = u
  · subst hv
    rw [if_neg (by simp)]
    by_cases hn : n = m
    · have h0 := h1.2 hn
      rw [if_neg (by simp [h0])]
      rcases Nat.lt_trichotomy k j with hk | hk | hk
      · have h3 : ¬ j < k := by omega
        have h4 : ¬ j = k := by omega
        simp [hk, hn, h3, h4, cb_self]
      · subst hk; simp [hn, cb_self, hr]
      · have h3 : ¬ k < j := by omega
        simp [h3, hk, hn, cb_self]
    · have h0 : ¬ Lib.compareBytes n m = 0 := fun e => hn (h1.1 e)
      rw [if_pos h0]
      have hn' : ¬ m = n := fun e => hn e.symm
      simp only [true_and, hn', false_and, or_false]
      have e1 := cb_tot n m
      have e2 := cb_asym (a := m) (b := n)
      constructor
      · intro h
        rcases Classical.em (Lib.compareBytes m n < 0) with h5 | h5
        · simp [h5]
        · exact absurd (e1 (by omega) hn) h5
      · rintro (⟨h, h'⟩ | h)
        · rw [h] at h'; cases h'
        · have := e2 h; omega
  · rw [if_pos hv]
    cases v <;> cases u <;> simp at hv ⊢
theorem cmpTs_swap : ∀ (xs ys : List Term), xs.length = ys.length → (0 < cmpTs xs ys ↔ cmpTs ys xs < 0)
  | [], [], _ => by simp [cmpTs]
  | [], _ :: _, h => by simp at h
  | _ :: _, [], h => by simp at h
  | .mk n v xs :: r, .mk m u ys :: r', h => by
    have h1 := cmpTs_swap r r' (by simpa using h)
    have h2 := cmpTs_swap xs ys
    have hx : 0 < cmpC n v xs.length m u ys.length (cmpTs xs ys) ↔ cmpC m u ys.length n v xs.length (cmpTs ys xs) < 0 := by
      by_cases hl : xs.length = ys.length
      · exact cmpC_gt _ _ _ _ _ _ _ _ (h2 hl)
      · rw [show cmpC m u ys.length n v xs.length (cmpTs ys xs) = cmpC m u ys.length n v xs.length (-(cmpTs xs ys)) by
          unfold cmpC
          split
          · rfl
          · split
            · rfl
            · rcases Nat.lt_or_gt_of_ne hl with hl | hl
              · have : ¬ ys.length < xs.length := by omega
                simp [this, hl]
              · simp [hl]]
        exact cmpC_gt _ _ _ _ _ _ _ _ (by omega)
    have i1 := cmpT_iff (.mk n v xs) (.mk m u ys)
    have i2 := cmpT_iff (.mk m u ys) (.mk n v xs)
    simp only [cmpT, Term.name, Term.var, Term.args] at i1 i2
    simp only [cmpTs]
    by_cases h0 : cmpC n v xs.length m u ys.length (cmpTs xs ys) = 0
    · have e := i1.1 h0
      have h3 := i2.2 e.symm
      rw [if_neg (by simpa using h0), if_neg (by simpa using h3)]
      exact h1
    · have h3 : ¬ cmpC m u ys.length n v xs.length (cmpTs ys xs) = 0 := fun e => h0 (i1.2 (i2.1 e).symm)
      rw [if_pos h0, if_pos h3]
      exact hx
theorem cmpT_swap (a b : Term) : 0 < cmpT a b ↔ cmpT b a < 0 := by
  have := cmpTs_swap [a] [b] rfl
  simp only [cmpTs_cons, cmpTs] at this
  by_cases h : cmpT a b = 0
  · have e := (cmpT_iff a b).1 h
    subst e
    omega
  · have h2 : ¬ cmpT b a = 0 := fun e => h ((cmpT_iff a b).2 ((cmpT_iff b a).1 e).symm)
    rw [if_pos h, if_pos h2] at this
    exact this
theorem cmpC_trans {n m o : List UInt8} {v u w : Bool} {k j l : Nat} {r1 r2 r3 : Int} (h : k = j → j = l → r1 < 0 → r2 < 0 → r3 < 0) (h1 : cmpC n v k m u j r1 < 0) (h2 : cmpC m u j o w l r2 < 0) : cmpC n v k o w l r3 < 0 := by
  rw [cmpC_lt] at h1 h2 ⊢
  rcases h1 with ⟨a1, a2⟩ | ⟨a1, a2⟩
  · rcases h2 with ⟨b1, b2⟩ | ⟨b1, b2⟩
    · rw [a2] at b1; cases b1
    · exact .inl ⟨a1, by rw [← b1]; exact a2⟩
  · rcases h2 with ⟨b1, b2⟩ | ⟨b1, b2⟩
    · exact .inl ⟨by rw [a1]; exact b1, b2⟩
    · refine .inr ⟨a1.trans b1, ?_⟩
      rcases a2 with a2 | ⟨rfl, a2⟩
      · rcases b2 with b2 | ⟨rfl, b2⟩
        · exact .inl (cb_trans _ _ _ a2 b2)
        · exact .inl a2
      · rcases b2 with b2 | ⟨rfl, b2⟩
        · exact .inl b2
        · refine .inr ⟨rfl, ?_⟩
          rcases a2 with a2 | ⟨a2, a3⟩
          · rcases b2 with b2 | ⟨b2, b3⟩
            · exact .inl (by omega)
            · exact .inl (by omega)
          · rcases b2 with b2 | ⟨b2, b3⟩
            · exact .inl (by omega)
            · exact .inr ⟨a2.trans b2, h a2 b2 a3 b3⟩
theorem cmpTs_trans : ∀ (xs ys zs : List Term), xs.length = ys.length → ys.length = zs.length → cmpTs xs ys < 0 → cmpTs ys zs < 0 → cmpTs xs zs < 0
  | [], ys, zs, _, _, h, _ => by simp [cmpTs] at h
  | _ :: _, [], _, h, _, _, _ => by simp at h
  | _ :: _, _ :: _, [], _, h, _, _ => by simp at h
  | .mk n v xs :: r, .mk m u ys :: r', .mk o w zs :: r'', hl, hl', h1, h2 => by
    have ih := cmpTs_trans r r' r'' (by simpa using hl) (by simpa using hl')
    have ia := cmpTs_trans xs ys zs
    have tr := cmpC_trans (n := n) (m := m) (o := o) (v := v) (u := u) (w := w) (k := xs.length) (j := ys.length) (l := zs.length) (r1 := cmpTs xs ys) (r2 := cmpTs ys zs) (r3 := cmpTs xs zs) ia
    have i1 := cmpT_iff (.mk n v xs) (.mk m u ys)
    have i2 := cmpT_iff (.mk m u ys) (.mk o w zs)
    have i3 := cmpT_iff (.mk n v xs) (.mk o w zs)
    simp only [cmpT, Term.name, Term.var, Term.args] at i1 i2 i3
    simp only [cmpTs] at h1 h2 ⊢
    by_cases e1 : cmpC n v xs.length m u ys.length (cmpTs xs ys) = 0
    · have q1 := i1.1 e1
      rw [if_neg (by simpa using e1)] at h1
      injection q1 with q1 q2 q3
      subst q1 q2 q3
      by_cases e2 : cmpC n v xs.length o w zs.length (cmpTs xs zs) = 0
      · rw [if_neg (by simpa using e2)] at h2 ⊢
        exact ih h1 h2
      · rw [if_pos e2] at h2 ⊢
        exact h2
    · rw [if_pos e1] at h1
      by_cases e2 : cmpC m u ys.length o w zs.length (cmpTs ys zs) = 0
      · have q2 := i2.1 e2
        injection q2 with q1 q2 q3
        subst q1 q2 q3
        rw [if_pos e1]
        exact h1
      · rw [if_pos e2] at h2
        have h3 := tr h1 h2
        rw [if_pos (by omega)]
        exact h3
theorem cmpT_trans {a b c : Term} (h1 : cmpT a b < 0) (h2 : cmpT b c < 0) : cmpT a c < 0 := by
  have := cmpTs_trans [a] [b] [c] rfl rfl
  simp only [cmpTs_cons, cmpTs] at this
  rw [if_pos (by omega), if_pos (by omega)] at this
  have h3 := this h1 h2
  split at h3
  · exact h3
  · omega
theorem cmpT_irr (a : Term) : cmpT a a = 0 := (cmpT_iff a a).2 rfl
theorem cmpT_swo : Go.Sort.SWO (ltOf cmpT) := by
  have hz : ∀ x y : Term, ltOf cmpT x y = decide (cmpT x y < 0) := fun _ _ => rfl
  refine ⟨fun x => ?_, fun x y z h1 h2 => ?_, fun x y z h1 h2 => ?_⟩
  · rw [hz, cmpT_irr]; rfl
  · rw [hz, decide_eq_true_eq] at *; exact cmpT_trans h1 h2
  · rw [hz, decide_eq_false_iff_not] at *
    intro h3
    by_cases e : cmpT x y = 0
    · rw [(cmpT_iff x y).1 e] at h3; exact h2 h3
    · have h4 : cmpT y x < 0 := (cmpT_swap x y).1 (by omega)
      exact h2 (cmpT_trans h4 h3)
def insTm (l : List Term) (t : Term) : List Term := (l.takeWhile fun x => decide (cmpT x t < 0)) ++ (if (l.dropWhile fun x => decide (cmpT x t < 0)).head? = some t then l.dropWhile fun x => decide (cmpT x t < 0) else t :: l.dropWhile fun x => decide (cmpT x t < 0))
def StrT (l : List Term) : Prop := l.Pairwise fun a b => cmpT a b < 0
theorem insTm_nil (t : Term) : insTm [] t = [t] := rfl
theorem insTm_cons (x : Term) (l : List Term) (t : Term) : insTm (x :: l) t = if cmpT x t < 0 then x :: insTm l t else if x = t then x :: l else t :: x :: l := by
  unfold insTm
  by_cases h : cmpT x t < 0
  · simp [h]
  · simp [h]
theorem insTm_mem : ∀ (l : List Term) (t y : Term), y ∈ insTm l t ↔ y = t ∨ y ∈ l
  | [], t, y => by simp [insTm_nil]
  | x :: l, t, y => by
    rw [insTm_cons]
    have ih := insTm_mem l t y
    split
    · simp only [List.mem_cons, ih]
      constructor
      · rintro (h | h | h) <;> simp [h]
      · rintro (h | h | h) <;> simp [h]
    · split
      · rename_i e; subst e
        simp only [List.mem_cons]
        constructor
        · rintro (h | h) <;> simp [h]
        · rintro (h | h | h) <;> simp [h]
      · simp only [List.mem_cons]
theorem insTm_str : ∀ (l : List Term) (t : Term), StrT l → StrT (insTm l t)
  | [], t, _ => by rw [insTm_nil]; exact List.pairwise_singleton _ _
  | x :: l, t, h => by
    obtain ⟨h1, h2⟩ := List.pairwise_cons.1 h
    rw [insTm_cons]
    split
    · rename_i hx
      refine List.pairwise_cons.2 ⟨fun y hy => ?_, insTm_str l t h2⟩
      rcases (insTm_mem l t y).1 hy with rfl | hy
      · exact hx
      · exact h1 y hy
    · rename_i hx
      split
      · exact h
      · rename_i hne
        have hlt : cmpT t x < 0 := (cmpT_swap x t).1 (by have : ¬ cmpT x t = 0 := fun e => hne ((cmpT_iff x t).1 e); omega)
        refine List.pairwise_cons.2 ⟨fun y hy => ?_, h⟩
        rcases List.mem_cons.1 hy with rfl | hy
        · exact hlt
        · exact cmpT_trans hlt (h1 y hy)
theorem str_uniq : ∀ (a b : List Term), StrT a → StrT b → (∀ x, x ∈ a ↔ x ∈ b) → a = b
  | [], [], _, _, _ => rfl
  | [], y :: b, _, _, h => by have := (h y).2 (by simp); simp at this
  | x :: a, [], _, _, h => by have := (h x).1 (by simp); simp at this
  | x :: a, y :: b, ha, hb, h => by
    obtain ⟨a1, a2⟩ := List.pairwise_cons.1 ha
    obtain ⟨b1, b2⟩ := List.pairwise_cons.1 hb
    have hxy : x = y := by
      rcases List.mem_cons.1 ((h x).1 (by simp)) with e | hx
      · exact e
      · rcases List.mem_cons.1 ((h y).2 (by simp)) with e | hy
        · exact e.symm
        · have h1 := b1 x hx
          have h2 := a1 y hy
          have := cmpT_trans h1 h2
          rw [cmpT_irr] at this; omega
    subst hxy
    congr 1
    refine str_uniq a b a2 b2 (fun z => ?_)
    have hz := h z
    constructor
    · intro hm
      rcases List.mem_cons.1 (hz.1 (by simp [hm])) with e | h3
      · subst e; have := a1 z hm; rw [cmpT_irr] at this; omega
      · exact h3
    · intro hm
      rcases List.mem_cons.1 (hz.2 (by simp [hm])) with e | h3
      · subst e; have := b1 z hm; rw [cmpT_irr] at this; omega
      · exact h3
def sortTm (l : List Term) : List Term := l.foldl insTm []
theorem sortTm_aux : ∀ (l acc : List Term), StrT acc → StrT (l.foldl insTm acc) ∧ ∀ y, y ∈ l.foldl insTm acc ↔ y ∈ acc ∨ y ∈ l
  | [], acc, h => ⟨h, fun y => by simp⟩
  | t :: l, acc, h => by
    obtain ⟨h1, h2⟩ := sortTm_aux l (insTm acc t) (insTm_str acc t h)
    refine ⟨h1, fun y => ?_⟩
    rw [List.foldl_cons, h2, insTm_mem]
    simp only [List.mem_cons]
    constructor
    · rintro ((h | h) | h) <;> simp [h]
    · rintro (h | h | h) <;> simp [h]
theorem sortTm_str (l : List Term) : StrT (sortTm l) := (sortTm_aux l [] List.Pairwise.nil).1
theorem sortTm_mem (l : List Term) (y : Term) : y ∈ sortTm l ↔ y ∈ l := by
  have := (sortTm_aux l [] List.Pairwise.nil).2 y
  unfold sortTm
  simpa using this
theorem sortTm_uniq {l s : List Term} (hp : l.Perm s) (hn : l.Nodup) (hs : s.Pairwise fun a b => ¬ cmpT b a < 0) : s = sortTm l := by
  refine str_uniq s (sortTm l) ?_ (sortTm_str l) (fun x => by rw [sortTm_mem]; exact hp.mem_iff.symm)
  have hns : s.Nodup := hp.nodup_iff.1 hn
  unfold StrT
  have := List.Pairwise.and hs hns
  refine this.imp (fun h => ?_)
  obtain ⟨h1, h2⟩ := h
  have h3 := cmpT_swap
  rename_i a b
  have h4 : ¬ cmpT a b = 0 := fun e => h2 ((cmpT_iff a b).1 e)
  have h5 := h3 a b
  omega
end Ab
set_option maxRecDepth 10000
namespace Ab
open Go Go.Proofs
section
variable {P : Program} {ro : Option Nat} {H0 : List AObj} {Q : Exit → ASt → Prop} {st : ASt} {K : AV → List AObj → Prop} {dst : Option Tmp} {ty : TypeId} {pos : String} {after : Array Edge} {guard : Option (Nat × Bool)}
inductive ToK (m : Nat) (h : List AObj) : AV → AV → Prop
  | fgt {r v : AV} (hf : fgtW r v) : ToK m h r v
  | row (k e sz : Nat) {xs c c' : List AV} (hk : h[k]? = some (grO e sz xs)) (hl : (flat xs).length = xs.length * sz) (hm : m ≤ k) (hsc : ScopedL m (flat xs)) (hc : fgtL c c') : ToK m h (.tup (grS k xs :: c)) (.tup (.sl .none xs :: c'))
def finKK (H : List AObj) (m : Nat) (v : AV) (H1 h : List AObj) (r : AV) : Prop := OutOk H h m ∧ ToK m h r v ∧ Scoped m v ∧ h.take m = H1
def finVK (P : Program) (H : List AObj) (m : Nat) (v : AV) (H1 : List AObj) (rs : List ResultVar) : Exit → ASt → Prop
  | .normal, st => finR P rs st (finKK H m v H1 st.heap)
  | .ret, st => finR P rs st (finKK H m v H1 st.heap)
  | _, _ => False
theorem ACall_VKA {f : Nat} {fn : Func} {c : Code} {args : List AV} {H H1 : List AObj} {v : AV} (m n : Nat) (rs : List ResultVar) (hf : P.funcs[f]? = some fn) (hb : fn.body = some c) (hn : fn.ntmps - args.length = n) (hr : fn.results = rs.toArray)
    (h : AW P none H c (finVK P H m v H1 rs) ⟨args ++ List.replicate n (.lit undef), H⟩) : ACall P f args H (fun r H' => r = v ∧ H' = H1) := by
  subst hn
  intro C vs hg hH hsz hv
  refine ACall_of_AW (P := P) hf hb ?_ C vs hg hH hsz hv (R := fun r H' => r = v ∧ H' = H1)
  refine AW_mono h ?_
  intro e st' hh
  have key : finR P rs st' (finKK H m v H1 st'.heap) → ∃ r, ResOk P fn st' r ∧ finKK H m v H1 st'.heap r := by
    intro hh
    cases rs with
    | nil => exact ⟨.tup [], by unfold ResOk; rw [hr], hh⟩
    | cons x rs =>
      cases rs with
      | nil =>
        refine ⟨_, ?_, hh.2⟩
        have := resPre_spec hh.1
        unfold ResOk; rw [hr]
        cases x with
        | tmp t => rfl
        | cell a t => exact this
      | cons y l =>
        refine ⟨_, ?_, hh.2⟩
        unfold ResOk; rw [hr]
        have h2 := resPres_spec hh.1
        cases x <;> exact ⟨_, rfl, h2⟩
  have fin : (∃ r, ResOk P fn st' r ∧ finKK H m v H1 st'.heap r) → ∀ C1 a, Good C1 → C1.H = st'.heap → SRel C1 st' a → ∃ u r C', (results fn a.tmps).run P C1.w = .ok u C1.w ∧ C'.w = C1.w ∧ Good C' ∧ (∀ C0, Ext C0 C1 → C0.H = H → Good C0 → Ext C0 C') ∧ VRel C' r u ∧ (r = v ∧ C'.H = H1) := by
    rintro ⟨r, hr, ho, hto, hsc, ht⟩ C1 a hg1 hH1 hs1
    obtain ⟨u, hrun, hrel⟩ := results_run hr hg1 hH1 hs1
    have ho' : OutOk C.H C1.H m := by rw [hH, hH1]; exact ho
    have hgt : Good (C1.take m) := Good.take hg hg1 ho'
    have hht : (C1.take m).H = H1 := by show C1.H.take m = H1; rw [hH1]; exact ht
    cases hto with
    | fgt hf => exact ⟨u, v, C1.take m, hrun, rfl, hgt, fun C0 hx h0 _ => hx.take (by rw [h0]; exact ho.2.1), (fgtW_spec _ _ hf _ _ hrel).take hsc, rfl, hht⟩
    | @row k e sz xs cc cc' hk hl hm hs2 hcc =>
      cases hrel with
      | tup _ us hsz hrel =>
        have h0 := hrel 0 (by simp)
        obtain ⟨C', e1, e2, e3, e4, e5⟩ := gr_frz hg1 h0 (by rw [hH1]; exact hk) hl hm hgt hs2
        obtain ⟨pc, qc⟩ := fgtL_spec _ _ hcc
        simp only [Scoped, ScopedL] at hsc
        refine ⟨_, .tup (.sl .none xs :: cc'), C', hrun, e1, e3, fun C0 hx h0 _ => (hx.take (by rw [h0]; exact ho.2.1)).trans e4, .tup _ us (by simp only [List.length_cons] at hsz ⊢; omega) (fun i hi => ?_), rfl, e2.trans hht⟩
        match i, hi with
        | 0, _ => exact e5
        | i + 1, hi =>
          simp only [List.getElem_cons_succ]
          have hi1 : i < cc'.length := by simpa using hi
          have h3 := hrel (i + 1) (by simp only [List.length_cons]; omega)
          simp only [List.getElem_cons_succ] at h3
          exact ((qc i (by omega) hi1 _ _ h3).take (ScopedL_iff.1 hsc.2 _ (List.getElem_mem hi1))).ext e4
  cases e <;> first
    | exact fin (key hh)
    | exact hh.elim
end
section rules
variable {P : Program} {st : ASt}
theorem finVK_n {H H1 : List AObj} {m : Nat} {v : AV} {rs : List ResultVar} : finVK P H m v H1 rs .normal st = finR P rs st (finKK H m v H1 st.heap) := (rfl)
theorem finVK_r {H H1 : List AObj} {m : Nat} {v : AV} {rs : List ResultVar} : finVK P H m v H1 rs .ret st = finR P rs st (finKK H m v H1 st.heap) := (rfl)
end rules
attribute [push_cast] finVK_n finVK_r finKK
theorem pureTs : ∀ ts : List Term, ∀ c, c ∈ flat (encTs ts) → Pure c
  | [], c, h => by rw [encTs_nil] at h; simp [flat] at h
  | .mk n v ys :: r, c, h => by
    rw [encTs_cons] at h
    have e : flat (encT (.mk n v ys) :: encTs r) = [.str n, .bool v, .sl .none (encTs ys)] ++ flat (encTs r) := by simp [flat, AV.cells, Term.name, Term.var, Term.args]
    rw [e] at h
    rcases List.mem_append.1 h with h | h
    · simp only [List.mem_cons, List.not_mem_nil, or_false] at h
      rcases h with rfl | rfl | rfl
      · exact .str n
      · exact .bool v
      · exact .sl _ (fun j hj => pureTs ys _ (List.getElem_mem hj))
    · exact pureTs r c h
theorem scGT (n e : Nat) (ts : List Term) : OScoped n (grO e 3 (encTs ts)) = True := osc_grO n e 3 _ (flT_sc n ts)
attribute [push_cast] scGT
theorem encL_encT (ts : List Term) : encL (fun t : Term => encT t) ts = encTs ts := by rw [encTs_map]; rfl
theorem sortT_ac (k : Nat) (ts : List Term) (hlen : ts.length < 1099511627776) (hb : ∀ x, x ∈ ts → x.bulk ≤ 1099511627775) (H : List AObj) (hk : H[k]? = some (grO 25 3 (encTs ts))) :
    ACall Tryz.prog 86 [grS k (encTs ts), .fn 87 []] H (fun r H' => ∃ ts', ts.Perm ts' ∧ ts'.Pairwise (fun a b => ¬ cmpT b a < 0) ∧ r = .tup [] ∧ H' = H.set k (grO 25 3 (encTs ts'))) := by
  have h := sortP (ρ := Tryz.sortTe_ren) Tryz.sortTe 3 (by decide) Tryz.isAgg25 Tryz.sizeOf25 (fun t : Term => encT t) (fun t => [.str t.name, .bool t.var, .sl .none (encTs t.args)]) (fun _ => rfl) (fun _ => rfl) (fun t c hc => by
      simp only [List.mem_cons, List.not_mem_nil, or_false] at hc
      rcases hc with rfl | rfl | rfl
      · exact ⟨.str _, rfl⟩
      · exact ⟨.bool _, rfl⟩
      · exact ⟨.sl _ (fun j hj => pureTs t.args _ (List.getElem_mem hj)), rfl⟩) cmpT cmpT_swo 87 (enters_of Tryz.func87 (by kernel_rfl) rfl) k ts (fun x hx y hy => compare_ac x y (hb x hx) (hb y hy) []) 25 hlen H (by rw [encL_encT]; exact hk)
  simp only [encL_encT] at h
  exact h
section
variable {P : Program} {ro : Option Nat} {st : ASt} {K : AV → List AObj → Prop} {dst : Option Tmp} {ty : TypeId} {pos : String} {after : Array Edge} {guard : Option (Nat × Bool)}
theorem app1_GT {t e by_ : Nat} {s x : Operand} (zs : List Value) (k : Nat) (xs : List Term) (y : Term) (tk : Tok) (hs : st.opd s = grS k (encTs xs)) (hx : st.opd x = .sl tk [encT y]) (hh : st.heap[k]? = some (grO e 3 (encTs xs)))
    (ht : SliceT P t e) (hsz : SzOf P e 3) (hby : BytesOf P e by_) (hz : ZeroOf P e zs) (hz0 : zs.length = 3) (hb : by_ ≤ 100) (hl : xs.length < 1099511627776)
    (k' : K (grS k (encTs (xs ++ [y]))) (st.heap.set k (grO e 3 (encTs (xs ++ [y]))))) :
    AOp P ro ⟨dst, .call { callee := .builtin .append, args := #[s, x], argTypes := #[t, t] }, ty, pos, after, guard⟩ K st := by
  rw [← encL_encT] at hs hh k'
  exact app1_Gr (fun t : Term => encT t) (sz := 3) (fun _ => rfl) (by intro x c hc; simp [AV.cells] at hc; rcases hc with rfl | rfl | rfl <;> rfl) zs k xs y tk hs hx hh ht hsz hby hz hz0 (by decide) hb hl k'
end
set_option maxHeartbeats 2000000 in
theorem normals_ac (rs : List (Term × Term)) (hlen : rs.length < 1099511627776) (hb : BndR rs) (t : Term) (ht : t.bulk ≤ 1099511627775) (most : Int) (g : GrP) (hg : exploreE rs t most = (g, 0)) (hr : sysP rs = 0) (hck : ∀ x, x ∈ g.ts → checkP x = 0) (hl : g.ts.length < 1099511627776) (hnd : g.ts.Nodup) (H : List AObj) :
    ACall Tryz.prog 39 [.sl .none (encL encRu rs), encT t, .int .i64 most] H (fun r H' => r = .tup [.sl .none (encTs (sortTm (normsF rs g.ts))), .bool g.wh, .int .i64 0] ∧ H' = H) := by
  have hex := fun X => exploreX_ac rs hlen hb t ht most X
  rw [hg] at hex
  refine ACall_VKA (H.length) 43 [.tmp 6, .tmp 7, .tmp 8] Tryz.func39 rfl rfl rfl ?_
  refine AW_reserve 1 ?_
  refine AW_of_W ?_
  simp only [push_cast, Nat.reduceAdd, Nat.reduceSub, Nat.reduceMul, Nat.reduceLT, Nat.reduceLeDiff, Nat.reduceEqDiff, Int.reduceToNat, ↓reduceIte]
  refine (hex _).to ?_
  simp only [push_cast, Nat.reduceAdd, Nat.reduceSub, Nat.reduceMul, Nat.reduceLT, Nat.reduceLeDiff, Nat.reduceEqDiff, Int.reduceToNat, ↓reduceIte, encGE]
  refine AW_loopW (maskG 46 [0, 8, 1, 13, 0, 0]) (fun (i : Nat) => [(27, .int .i64 i), (11, grS H.length (encTs (normsF rs (g.ts.take i))))]) (fun i => H ++ [grO 25 3 (encTs (normsF rs (g.ts.take i))), .cells [.str t.name, .bool t.var, .sl .none (encTs t.args)], .cells [.sl .none (encTs g.ts), .sl .none (encL encE g.es), .bool g.wh]]) (fun i => i ≤ g.ts.length) (fun i => g.ts.length - i) 0 (Nat.zero_le _) (by simp only [push_cast, Nat.reduceAdd, Nat.reduceSub, Nat.reduceMul, Nat.reduceLT, Nat.reduceLeDiff, Nat.reduceEqDiff, Int.reduceToNat, ↓reduceIte, List.take_zero, show normsF rs [] = [] from rfl, encTs_nil]) (fun i hi => ?_)
  simp only [push_cast, Nat.reduceAdd, Nat.reduceSub, Nat.reduceMul, Nat.reduceLT, Nat.reduceLeDiff, Nat.reduceEqDiff, Int.reduceToNat, ↓reduceIte]
  refine cI (fun h => ?_) (fun h => ?_)
  · have hil : i < g.ts.length := by omega
    have hst := normsF_snoc rs g.ts i hil
    have hnl : (normsF rs (g.ts.take i)).length ≤ g.ts.length := Nat.le_trans (List.length_filter_le _ _) (by rw [List.length_take]; omega)
    have huc := hck _ (List.getElem_mem hil)
    refine ⟨hil, ?_⟩
    refine (allSteps_ac rs (sys_B hr).1 (g.ts[i]'hil) (by have := check_small huc; omega) _).to ?_
    simp only [push_cast, Nat.reduceAdd, Nat.reduceSub, Nat.reduceMul, Nat.reduceLT, Nat.reduceLeDiff, Nat.reduceEqDiff, Int.reduceToNat, ↓reduceIte]
    refine cI (fun h2 => ?_) (fun h2 => ?_)
    · rw [if_pos (by omega)] at hst
      refine app1_GT _ H.length (normsF rs (g.ts.take i)) (g.ts[i]'hil) _ rfl rfl (by exact aget0 _ _ _) sl23 sz25 by25 zr25 rfl (by decide) (by omega) ?_
      rw [← hst]
      simp only [push_cast, Nat.reduceAdd, Nat.reduceSub, Nat.reduceMul, Nat.reduceLT, Nat.reduceLeDiff, Nat.reduceEqDiff, Int.reduceToNat, ↓reduceIte]
      repeat' first | refine ⟨by omega, ?_⟩ | refine cI (fun _ => ?_) (fun _ => ?_)
      exact loopW_n (i + 1) (by omega) (by omega) (by simp only [push_cast, Nat.reduceAdd, Nat.reduceSub, Nat.reduceMul, Nat.reduceLT, Nat.reduceLeDiff, Nat.reduceEqDiff, Int.reduceToNat, ↓reduceIte])
    · rw [if_neg (by omega), List.append_nil] at hst
      rw [← hst]
      repeat' first | refine ⟨by omega, ?_⟩ | refine cI (fun _ => ?_) (fun _ => ?_)
      exact loopW_n (i + 1) (by omega) (by omega) (by simp only [push_cast, Nat.reduceAdd, Nat.reduceSub, Nat.reduceMul, Nat.reduceLT, Nat.reduceLeDiff, Nat.reduceEqDiff, Int.reduceToNat, ↓reduceIte])
  · rw [List.take_of_length_le (show g.ts.length ≤ i by omega)]
    have hnl : (normsF rs g.ts).length ≤ g.ts.length := List.length_filter_le _ _
    refine (sortT_ac H.length (normsF rs g.ts) (by omega) (fun x hx => by have := check_small (hck x (List.mem_filter.1 hx).1); omega) _ (by exact aget0 _ _ _)).mono ?_
    rintro r H' ⟨ts', hp, hw, rfl, rfl⟩
    have hs := sortTm_uniq hp (hnd.sublist List.filter_sublist) hw
    subst hs
    simp only [push_cast, Nat.reduceAdd, Nat.reduceSub, Nat.reduceMul, Nat.reduceLT, Nat.reduceLeDiff, Nat.reduceEqDiff, Int.reduceToNat, ↓reduceIte]
    apply AW_drawE [some 43, some 44, some 45, some 6, some 7, some 8] [([], _)] [none, none, none, none, none, none] 0 [(0, [], [11]), (1, [], [9]), (2, [], [44]), (3, [], [43]), (4, [], [45]), (5, [], [])] [_, _, _, _, _, _]
    case' hm => exact dr
    case' hn => rfl
    case' hok => rfl
    case' hlen => rfl
    case' hd => rfl
    case' h0 => rfl
    case' hstep =>
     simp only [DAllG, push_cast, Option.isSome_some, Option.isSome_none]
     repeat' apply And.intro
     all_goals (apply DOne_V; simp only [push_cast, Nat.reduceAdd, Nat.reduceSub, Nat.reduceMul, Nat.reduceLT, Nat.reduceLeDiff, Nat.reduceEqDiff, Int.reduceToNat, ↓reduceIte] <;> first | exact rfl | omega | exact ⟨rfl, rfl⟩ | exact trivial | exact ⟨by omega, rfl⟩ | exact ⟨by omega, by omega, rfl⟩ | exact ⟨by omega, rfl, rfl⟩ | exact ⟨by omega, by omega, rfl, rfl⟩ | skip)
    case' hQ => skip
    simp only [push_cast, Nat.reduceAdd, Nat.reduceSub, Nat.reduceMul, Nat.reduceLT, Nat.reduceLeDiff, Nat.reduceEqDiff, Int.reduceToNat, ↓reduceIte]
    rw [grS_len H.length (show (encTs (normsF rs g.ts)).length = (encTs (sortTm (normsF rs g.ts))).length by rw [encTs_length, encTs_length, hp.length_eq])]
    first | exact .row H.length 25 3 (by exact aget0 _ _ _) (by rw [flT_len, encTs_length]) (by omega) (flT_sc _ _) (by simp only [push_cast, Nat.reduceAdd, Nat.reduceSub, Nat.reduceMul, Nat.reduceLT, Nat.reduceLeDiff, Nat.reduceEqDiff, Int.reduceToNat, ↓reduceIte]) | trace_state
end Ab
set_option maxRecDepth 10000
namespace Ab
open Go Go.Proofs
inductive Pth (nx : Nat → List Nat) : Nat → Nat → Nat → Prop
  | nil (i : Nat) : Pth nx i i 0
  | cons (i k j m : Nat) (h : k ∈ nx i) (p : Pth nx k j m) : Pth nx i j (m + 1)
theorem Pth.trans {nx : Nat → List Nat} {i j k m m' : Nat} (p : Pth nx i j m) (q : Pth nx j k m') : Pth nx i k (m + m') := by
  induction p with
  | nil i => simpa using q
  | cons i a j m h p ih => rw [Nat.add_right_comm]; exact .cons i a k _ h (ih q)
theorem Pth.one {nx : Nat → List Nat} {i k : Nat} (h : k ∈ nx i) : Pth nx i k 1 := .cons i k k 0 h (.nil k)
def Cyc (nx : Nat → List Nat) : Prop := ∃ c m, Pth nx c c (m + 1)
theorem long_cycR {nx : Nat → List Nat} : ∀ (n : Nat) (A : List Nat) (k j m : Nat), A.length ≤ n → Pth nx k j m → (∀ x m', Pth nx k x m' → x ∈ A) → A.length ≤ m → ∃ c q r, Pth nx c c (q + 1) ∧ Pth nx k c r
  | 0, A, k, j, m, hA, _, hr, _ => by
    have hk := hr k 0 (.nil k)
    have hp := List.length_pos_of_mem hk
    omega
  | n + 1, A, k, j, m, hA, p, hr, hm => by
    have hk : k ∈ A := hr k 0 (.nil k)
    have hlen : (A.erase k).length = A.length - 1 := List.length_erase_of_mem hk
    have hpos : 0 < A.length := List.length_pos_of_mem hk
    cases p with
    | nil => omega
    | cons _ k2 _ m2 h2 p2 =>
      by_cases hc : ∃ m', Pth nx k2 k m'
      · obtain ⟨m', hp⟩ := hc
        exact ⟨k, m', 0, .cons k k2 k m' h2 hp, .nil k⟩
      · obtain ⟨c, q, r, g1, g2⟩ := long_cycR n (A.erase k) k2 j m2 (by omega) p2 (fun x m' hp => by
          have hx : x ≠ k := fun e => hc ⟨m', e ▸ hp⟩
          exact (List.mem_erase_of_ne hx).2 (hr x (m' + 1) (.cons k k2 x m' h2 hp))) (by omega)
        exact ⟨c, q, r + 1, g1, .cons k k2 c r h2 g2⟩
theorem long_cyc {nx : Nat → List Nat} (n : Nat) (A : List Nat) (k j m : Nat) (hA : A.length ≤ n) (p : Pth nx k j m) (hr : ∀ x m', Pth nx k x m' → x ∈ A) (hm : A.length ≤ m) : Cyc nx := by
  obtain ⟨c, q, _, g, _⟩ := long_cycR n A k j m hA p hr hm
  exact ⟨c, q, g⟩
theorem cyc_long {nx : Nat → List Nat} {c m : Nat} (p : Pth nx c c (m + 1)) : ∀ n, ∃ j m', n ≤ m' ∧ Pth nx c j m'
  | 0 => ⟨c, 0, Nat.le_refl _, .nil c⟩
  | n + 1 => by
    obtain ⟨j, m', h1, h2⟩ := cyc_long p n
    exact ⟨j, m + 1 + m', by omega, p.trans h2⟩
theorem Pth.cut {nx : Nat → List Nat} {i j m : Nat} (p : Pth nx i j m) : ∀ n, n ≤ m → ∃ x, Pth nx i x n := by
  induction p with
  | nil i => intro n hn; rw [Nat.le_zero.1 hn]; exact ⟨i, .nil i⟩
  | cons i k j m h p ih =>
    intro n hn
    cases n with
    | zero => exact ⟨i, .nil i⟩
    | succ n =>
      obtain ⟨x, hx⟩ := ih n (by omega)
      exact ⟨x, .cons i k x n h hx⟩
def IsLong (nx : Nat → List Nat) (i m : Nat) : Prop := (∃ j, Pth nx i j m) ∧ ∀ j m', Pth nx i j m' → m' ≤ m
theorem IsLong.uniq {nx : Nat → List Nat} {i m m' : Nat} (h : IsLong nx i m) (h' : IsLong nx i m') : m = m' := by
  obtain ⟨⟨j, a⟩, b⟩ := h
  obtain ⟨⟨j', a'⟩, b'⟩ := h'
  exact Nat.le_antisymm (b' _ _ a) (b _ _ a')
def relax (lg : List Int) (e : Nat × Nat) : List Int := lg.set e.1 (max (lg.getD e.1 0) (lg.getD e.2 0 + 1))
def roundF (es : List (Nat × Nat)) (lg : List Int) : List Int := es.foldl relax lg
def roundsF (es : List (Nat × Nat)) : Nat → List Int → List Int
  | 0, lg => lg
  | m + 1, lg => roundsF es m (roundF es lg)
theorem roundsF_succ (es : List (Nat × Nat)) : ∀ (m : Nat) (lg : List Int), roundsF es (m + 1) lg = roundF es (roundsF es m lg)
  | 0, _ => rfl
  | m + 1, lg => by rw [roundsF, roundsF_succ es m, ← roundsF]
theorem relax_len (lg : List Int) (e : Nat × Nat) : (relax lg e).length = lg.length := by simp [relax]
theorem round_len : ∀ (es : List (Nat × Nat)) (lg : List Int), (roundF es lg).length = lg.length
  | [], _ => rfl
  | e :: r, lg => by
    have := round_len r (relax lg e)
    rw [relax_len] at this
    exact this
theorem rounds_len (es : List (Nat × Nat)) : ∀ (m : Nat) (lg : List Int), (roundsF es m lg).length = lg.length
  | 0, _ => rfl
  | m + 1, lg => by rw [roundsF, rounds_len es m, round_len]
theorem getD_set (lg : List Int) (i j : Nat) (v : Int) (hi : i < lg.length) : (lg.set i v).getD j 0 = if i = j then v else lg.getD j 0 := by
  by_cases h : i = j
  · subst h; simp [hi]
  · simp [h, List.getElem?_set]
theorem relax_get (lg : List Int) (e : Nat × Nat) (h : e.1 < lg.length) (j : Nat) : (relax lg e).getD j 0 = if e.1 = j then max (lg.getD e.1 0) (lg.getD e.2 0 + 1) else lg.getD j 0 := getD_set _ _ _ _ h
theorem relax_mono (lg : List Int) (e : Nat × Nat) (j : Nat) (h : e.1 < lg.length) : lg.getD j 0 ≤ (relax lg e).getD j 0 := by
  rw [relax_get _ _ h]; split
  · rename_i h; subst h; omega
  · exact Int.le_refl _
theorem round_mono : ∀ (es : List (Nat × Nat)) (lg : List Int) (j : Nat), (∀ e, e ∈ es → e.1 < lg.length) → lg.getD j 0 ≤ (roundF es lg).getD j 0
  | [], _, _, _ => Int.le_refl _
  | e :: r, lg, j, h => Int.le_trans (relax_mono lg e j (h e (by simp))) (round_mono r (relax lg e) j (fun x hx => by rw [relax_len]; exact h x (by simp [hx])))
theorem round_edge : ∀ (es : List (Nat × Nat)) (lg : List Int) (e : Nat × Nat), (∀ e, e ∈ es → e.1 < lg.length) → e ∈ es → lg.getD e.2 0 + 1 ≤ (roundF es lg).getD e.1 0
  | [], _, _, _, h => by simp at h
  | x :: r, lg, e, hb, h => by
    have hx := hb x (by simp)
    have hb' : ∀ e, e ∈ r → e.1 < (relax lg x).length := fun y hy => by rw [relax_len]; exact hb y (by simp [hy])
    rcases List.mem_cons.1 h with rfl | h
    · refine Int.le_trans ?_ (round_mono r (relax lg e) e.1 hb')
      rw [relax_get _ _ hx, if_pos rfl]; omega
    · refine Int.le_trans ?_ (round_edge r (relax lg x) e hb' h)
      have := relax_mono lg x e.2 hx
      omega
def nxE (es : List (Nat × Nat)) (i : Nat) : List Nat := (es.filter fun e => decide (e.1 = i)).map (·.2)
theorem nxE_mem {es : List (Nat × Nat)} {i k : Nat} : k ∈ nxE es i ↔ (i, k) ∈ es := by
  unfold nxE
  simp only [List.mem_map, List.mem_filter, decide_eq_true_eq]
  constructor
  · rintro ⟨⟨a, b⟩, ⟨h1, h2⟩, h3⟩
    simp only at h2 h3
    rw [← h2, ← h3]; exact h1
  · intro h; exact ⟨(i, k), ⟨h, rfl⟩, rfl⟩
def Real (nx : Nat → List Nat) (lg : List Int) : Prop := ∀ i, ∃ m : Nat, lg.getD i 0 = (m : Int) ∧ ∃ j, Pth nx i j m
theorem relax_real {es : List (Nat × Nat)} {lg : List Int} (h : Real (nxE es) lg) {e : Nat × Nat} (he : e ∈ es) (hb : e.1 < lg.length) : Real (nxE es) (relax lg e) := fun i => by
  rw [relax_get _ _ hb]
  split
  · rename_i hi; subst hi
    obtain ⟨m1, g1, j1, p1⟩ := h e.1
    obtain ⟨m2, g2, j2, p2⟩ := h e.2
    rw [g1, g2]
    by_cases hc : m1 ≤ m2 + 1
    · exact ⟨m2 + 1, by omega, j2, .cons _ e.2 _ _ (nxE_mem.2 he) p2⟩
    · exact ⟨m1, by omega, j1, p1⟩
  · exact h i
theorem round_real {es : List (Nat × Nat)} : ∀ (l : List (Nat × Nat)) (lg : List Int), Real (nxE es) lg → (∀ e, e ∈ l → e ∈ es) → (∀ e, e ∈ l → e.1 < lg.length) → Real (nxE es) (roundF l lg)
  | [], _, h, _, _ => h
  | e :: r, lg, h, h1, h2 => round_real r (relax lg e) (relax_real h (h1 e (by simp)) (h2 e (by simp))) (fun x hx => h1 x (by simp [hx])) (fun x hx => by rw [relax_len]; exact h2 x (by simp [hx]))
theorem rounds_real {es : List (Nat × Nat)} {n : Nat} (hb : ∀ e, e ∈ es → e.1 < n) : ∀ (m : Nat) (lg : List Int), lg.length = n → Real (nxE es) lg → Real (nxE es) (roundsF es m lg)
  | 0, _, _, h => h
  | m + 1, lg, hl, h => rounds_real hb m (roundF es lg) (by rw [round_len]; exact hl) (round_real es lg h (fun _ h => h) (fun e he => by rw [hl]; exact hb e he))
theorem rounds_full {es : List (Nat × Nat)} {n : Nat} (hb : ∀ e, e ∈ es → e.1 < n) (lg : List Int) (hl : lg.length = n) (h0 : ∀ i, 0 ≤ lg.getD i 0) : ∀ (m i j m' : Nat), Pth (nxE es) i j m' → m' ≤ m → (m' : Int) ≤ (roundsF es m lg).getD i 0
  | 0, i, j, m', _, h => by have := h0 i; rw [roundsF]; omega
  | m + 1, i, j, m', p, h => by
    have hb' : ∀ e, e ∈ es → e.1 < (roundsF es m lg).length := fun e he => by rw [rounds_len, hl]; exact hb e he
    rw [roundsF_succ]
    cases p with
    | nil =>
      have := rounds_full hb lg hl h0 m i i 0 (.nil i) (Nat.zero_le _)
      exact Int.le_trans this (round_mono es _ i hb')
    | cons _ k _ m2 hk p2 =>
      have h1 := rounds_full hb lg hl h0 m k j m2 p2 (by omega)
      have h2 := round_edge es (roundsF es m lg) (i, k) hb' (nxE_mem.1 hk)
      simp only at h2
      omega
def longR (n : Nat) (es : List (Nat × Nat)) : List Int := roundsF es (n + 1) (List.replicate n 0)
theorem longR_spec {n : Nat} {es : List (Nat × Nat)} (hb : ∀ e, e ∈ es → e.1 < n ∧ e.2 < n) : ((∃ i, i < n ∧ (n : Int) ≤ (longR n es).getD i 0) ↔ Cyc (nxE es)) ∧ (¬ Cyc (nxE es) → ∀ i, i < n → ∃ m : Nat, (longR n es).getD i 0 = (m : Int) ∧ IsLong (nxE es) i m) := by
  have hb1 : ∀ e, e ∈ es → e.1 < n := fun e he => (hb e he).1
  have h0 : ∀ i, 0 ≤ (List.replicate n (0 : Int)).getD i 0 := fun i => by
    simp only [List.getD_eq_getElem?_getD, List.getElem?_replicate]; split <;> simp
  have hreal : Real (nxE es) (longR n es) := rounds_real hb1 _ _ (by simp) (fun i => ⟨0, by simp only [List.getD_eq_getElem?_getD, List.getElem?_replicate]; split <;> simp, i, .nil i⟩)
  have hfull := rounds_full hb1 (List.replicate n 0) (by simp) h0 (n + 1)
  have hin : ∀ i j m, i < n → Pth (nxE es) i j m → j < n := fun i j m hi p => by
    induction p with
    | nil i => exact hi
    | cons i k j m h p ih => exact ih (hb _ (nxE_mem.1 h)).2
  have hpc : ∀ i j m, i < n → n ≤ m → Pth (nxE es) i j m → Cyc (nxE es) := fun i j m hi hm p =>
    long_cyc n (List.range n) i j m (by simp) p (fun x m' q => by simpa using hin i x m' hi q) (by simpa using hm)
  refine ⟨⟨?_, ?_⟩, fun hc i hi => ?_⟩
  · rintro ⟨i, hi, hl⟩
    obtain ⟨m, g, j, p⟩ := hreal i
    exact hpc i j m hi (by omega) p
  · rintro ⟨c, m, p⟩
    have hcn : c < n := by
      cases p with
      | cons _ k _ _ h _ => exact (hb _ (nxE_mem.1 h)).1
    obtain ⟨j, m', h1, h2⟩ := cyc_long p n
    obtain ⟨x, hx⟩ := h2.cut n h1
    exact ⟨c, hcn, hfull c x n hx (by omega)⟩
  · obtain ⟨m, g, j, p⟩ := hreal i
    refine ⟨m, g, ⟨j, p⟩, fun j' m' q => ?_⟩
    have hlt : m' < n := Nat.lt_of_not_le (fun h => hc (hpc i j' m' hi h q))
    have := hfull i j' m' q (by omega)
    rw [longR] at g
    omega
def rowV (v : List Int → Nat → List Int × Bool) : List Int → Int → List Nat → List Int × Option Int
  | lg, mo, [] => (lg, some mo)
  | lg, mo, k :: r => if (v lg k).2 = true then rowV v (v lg k).1 (max mo ((v lg k).1.getD k 0)) r else ((v lg k).1, none)
def visitF (nx : Nat → List Nat) : Nat → List Int → Nat → List Int × Bool
  | 0, lg, _ => (lg, false)
  | f + 1, lg, i => if lg.getD i 0 ≠ 0 then (lg, decide (0 < lg.getD i 0)) else
    match rowV (visitF nx f) (lg.set i (-1)) 0 (nx i) with
    | (l, none) => (l, false)
    | (l, some m) => (l.set i (m + 1), true)
def zeros (lg : List Int) : Nat := (lg.filter fun x => decide (x = 0)).length
theorem zeros_set : ∀ (lg : List Int) (i : Nat) (v : Int), i < lg.length → lg.getD i 0 = 0 → v ≠ 0 → zeros (lg.set i v) + 1 = zeros lg
  | [], i, v, h, _, _ => by simp at h
  | x :: r, 0, v, _, h, hv => by
    have hx : x = 0 := by simpa using h
    simp [zeros, hx, hv]
  | x :: r, i + 1, v, h, h0, hv => by
    have ih := zeros_set r i v (by simpa using h) (by simpa using h0) hv
    simp only [zeros, List.set_cons_succ, List.filter_cons] at ih ⊢
    split <;> simp_all
theorem zeros_le : ∀ (lg lg' : List Int), lg'.length = lg.length → (∀ a, lg.getD a 0 ≠ 0 → lg'.getD a 0 ≠ 0) → zeros lg' ≤ zeros lg
  | [], lg', h, _ => by
    have : lg' = [] := List.eq_nil_of_length_eq_zero (by simpa using h)
    subst this; exact Nat.le_refl _
  | x :: r, [], h, _ => by simp at h
  | x :: r, y :: r', h, hz => by
    have ih := zeros_le r r' (by simpa using h) (fun a ha => by have := hz (a + 1); simp only [List.getD_cons_succ] at this; exact this ha)
    have h0 := hz 0
    simp only [List.getD_cons_zero] at h0
    simp only [zeros, List.filter_cons] at ih ⊢
    by_cases hx : x = 0
    · by_cases hy : y = 0
      · simp only [hx, hy, decide_true, if_true, List.length_cons]; omega
      · simp only [hx, hy, decide_true, decide_false, if_true, List.length_cons]; simp; omega
    · have hy := h0 hx
      simp only [hx, hy, decide_false]; simpa using ih
structure Gr (lg lg' : List Int) : Prop where
  len : lg'.length = lg.length
  done : ∀ a, lg.getD a 0 ≠ 0 → lg'.getD a 0 = lg.getD a 0
  gray : ∀ a, lg'.getD a 0 = -1 → lg.getD a 0 = -1
theorem Gr.refl (lg : List Int) : Gr lg lg := ⟨rfl, fun _ _ => rfl, fun _ h => h⟩
theorem Gr.trans {a b c : List Int} (h : Gr a b) (k : Gr b c) : Gr a c :=
  ⟨k.len.trans h.len, fun x hx => by have h1 := h.done x hx; rw [k.done x (by rw [h1]; exact hx), h1], fun x hx => h.gray x (k.gray x hx)⟩
theorem Gr.zeros {a b : List Int} (h : Gr a b) : zeros b ≤ zeros a := zeros_le a b h.len (fun x hx => by rw [h.done x hx]; exact hx)
def InvV (nx : Nat → List Nat) (lg : List Int) : Prop := ∀ a, lg.getD a 0 = 0 ∨ lg.getD a 0 = -1 ∨ ∃ m : Nat, lg.getD a 0 = (m : Int) + 1 ∧ IsLong nx a m
theorem long_row {nx : Nat → List Nat} {i m : Nat} (h1 : ∀ k, k ∈ nx i → ∃ q, IsLong nx k q ∧ q + 1 ≤ m) (h2 : m = 0 ∨ ∃ k q, k ∈ nx i ∧ IsLong nx k q ∧ m = q + 1) : IsLong nx i m := by
  constructor
  · rcases h2 with rfl | ⟨k, q, hk, ⟨⟨j, p⟩, _⟩, rfl⟩
    · exact ⟨i, .nil i⟩
    · exact ⟨j, .cons i k j q hk p⟩
  · intro j m' p
    cases p with
    | nil => exact Nat.zero_le _
    | cons _ k _ m2 hk p2 =>
      obtain ⟨q, hq, hm⟩ := h1 k hk
      have := hq.2 _ _ p2
      omega
theorem rowV_spec {nx : Nat → List Nat} {f n i : Nat} (hn : ∀ k, k ∈ nx i → k < n)
    (ih : ∀ (lg : List Int) (k : Nat), lg.length = n → k < n → zeros lg < f → InvV nx lg → (∀ a, lg.getD a 0 = -1 → ∃ m, Pth nx a k (m + 1)) →
      ((visitF nx f lg k).2 = true ∧ Gr lg (visitF nx f lg k).1 ∧ InvV nx (visitF nx f lg k).1 ∧ 0 < (visitF nx f lg k).1.getD k 0) ∨ ((visitF nx f lg k).2 = false ∧ Cyc nx)) :
    ∀ (l : List Nat) (lg : List Int) (mo : Nat), lg.length = n → (∀ k, k ∈ l → k ∈ nx i) → zeros lg < f → InvV nx lg → (∀ a, lg.getD a 0 = -1 → ∃ m, Pth nx a i m) →
      (∀ k, k ∈ nx i → k ∈ l ∨ ∃ q, IsLong nx k q ∧ q + 1 ≤ mo) → (mo = 0 ∨ ∃ k q, k ∈ nx i ∧ IsLong nx k q ∧ mo = q + 1) →
      (∃ m : Nat, (rowV (visitF nx f) lg mo l).2 = some (m : Int) ∧ Gr lg (rowV (visitF nx f) lg mo l).1 ∧ InvV nx (rowV (visitF nx f) lg mo l).1 ∧ IsLong nx i m) ∨ ((rowV (visitF nx f) lg mo l).2 = none ∧ Cyc nx)
  | [], lg, mo, _, _, _, hI, _, h1, h2 => .inl ⟨mo, rfl, Gr.refl _, hI, long_row (fun k hk => by rcases h1 k hk with h | h; simp at h; exact h) h2⟩
  | k :: r, lg, mo, hl, hs, hz, hI, hg, h1, h2 => by
    have hk := hs k (by simp)
    have hp : ∀ a, lg.getD a 0 = -1 → ∃ m, Pth nx a k (m + 1) := fun a ha => by
      obtain ⟨m, p⟩ := hg a ha
      exact ⟨m, p.trans (.one hk)⟩
    rcases ih lg k hl (hn k hk) hz hI hp with ⟨a1, a2, a3, a4⟩ | ⟨a1, a2⟩
    · rw [rowV, if_pos a1]
      obtain ⟨q, hq, hql⟩ : ∃ q : Nat, (visitF nx f lg k).1.getD k 0 = (q : Int) + 1 ∧ IsLong nx k q := by
        rcases a3 k with h | h | h
        · omega
        · omega
        · exact h
      have hmax : max (mo : Int) ((visitF nx f lg k).1.getD k 0) = ((max mo (q + 1) : Nat) : Int) := by rw [hq]; omega
      rw [hmax]
      have := rowV_spec hn ih r (visitF nx f lg k).1 (max mo (q + 1)) (by rw [a2.len]; exact hl) (fun x hx => hs x (by simp [hx])) (Nat.lt_of_le_of_lt a2.zeros hz) a3 (fun a ha => hg a (a2.gray a ha)) (fun x hx => by
        rcases h1 x hx with h | ⟨q', h3, h4⟩
        · rcases List.mem_cons.1 h with rfl | h
          · exact .inr ⟨q, hql, by omega⟩
          · exact .inl h
        · exact .inr ⟨q', h3, by omega⟩) (by
        by_cases hc : mo ≤ q + 1
        · exact .inr ⟨k, q, hk, hql, by omega⟩
        · rw [Nat.max_eq_left (by omega)]; exact h2)
      rcases this with ⟨m, b1, b2, b3⟩ | b
      · exact .inl ⟨m, b1, a2.trans b2, b3⟩
      · exact .inr b
    · rw [rowV, if_neg (by rw [a1]; simp)]
      exact .inr ⟨rfl, a2⟩
theorem isLong_lt {nx : Nat → List Nat} {n i m : Nat} (hn : ∀ i k, i < n → k ∈ nx i → k < n) (hi : i < n) (h : IsLong nx i m) : m < n := by
  rcases Nat.lt_or_ge m n with hm | hm
  · exact hm
  · obtain ⟨⟨j, p⟩, hmax⟩ := h
    have hin : ∀ i j m, i < n → Pth nx i j m → j < n := fun i j m hi p => by
      induction p with
      | nil i => exact hi
      | cons i k j m h p ih => exact ih (hn _ _ hi h)
    obtain ⟨c, q, r, g1, g2⟩ := long_cycR n (List.range n) i j m (by simp) p (fun x m' q => by simpa using hin i x m' hi q) (by simpa using hm)
    obtain ⟨j', m', h1, h2⟩ := cyc_long g1 (m + 1)
    have := hmax _ _ (g2.trans h2)
    omega
theorem InvV.le {nx : Nat → List Nat} {n : Nat} {lg : List Int} (hn : ∀ i k, i < n → k ∈ nx i → k < n) (h : InvV nx lg) {a : Nat} (ha : a < n) : -1 ≤ lg.getD a 0 ∧ lg.getD a 0 ≤ n := by
  rcases h a with e | e | ⟨m, e, hL⟩
  · omega
  · omega
  · have := isLong_lt hn ha hL
    omega
theorem visit_spec {nx : Nat → List Nat} {n : Nat} (hn : ∀ i k, i < n → k ∈ nx i → k < n) : ∀ (f : Nat) (lg : List Int) (i : Nat), lg.length = n → i < n → zeros lg < f → InvV nx lg → (∀ a, lg.getD a 0 = -1 → ∃ m, Pth nx a i (m + 1)) →
      ((visitF nx f lg i).2 = true ∧ Gr lg (visitF nx f lg i).1 ∧ InvV nx (visitF nx f lg i).1 ∧ 0 < (visitF nx f lg i).1.getD i 0) ∨ ((visitF nx f lg i).2 = false ∧ Cyc nx)
  | 0, _, _, _, _, h, _, _ => by omega
  | f + 1, lg, i, hl, hi, hz, hI, hg => by
    rw [visitF]
    by_cases h0 : lg.getD i 0 ≠ 0
    · rw [if_pos h0]
      rcases hI i with h | h | ⟨m, h, hL⟩
      · exact absurd h h0
      · obtain ⟨m, p⟩ := hg i h
        exact .inr ⟨by simp only [decide_eq_false_iff_not]; omega, i, m, p⟩
      · exact .inl ⟨by simp only [decide_eq_true_eq]; omega, Gr.refl _, hI, by simp only; omega⟩
    · rw [if_neg h0]
      have h0' : lg.getD i 0 = 0 := by omega
      have hil : i < lg.length := by omega
      have hz1 := zeros_set lg i (-1) hil h0' (by decide)
      have hg1 : ∀ a, (lg.set i (-1)).getD a 0 = if i = a then -1 else lg.getD a 0 := fun a => getD_set _ _ _ _ hil
      rcases rowV_spec (nx := nx) (f := f) (n := n) (i := i) (fun k hk => hn i k hi hk) (visit_spec hn f) (nx i) (lg.set i (-1)) 0 (by simp [hl]) (fun k h => h) (by omega) (fun a => by
          rw [hg1]; split
          · exact .inr (.inl rfl)
          · exact hI a) (fun a ha => by
          rw [hg1] at ha
          by_cases e : i = a
          · subst e; exact ⟨0, .nil i⟩
          · rw [if_neg e] at ha
            obtain ⟨m, p⟩ := hg a ha
            exact ⟨m + 1, p⟩) (fun k hk => .inl hk) (.inl rfl) with ⟨m, b1, b2, b3, b4⟩ | ⟨b1, b2⟩
      · obtain ⟨R, hR⟩ : ∃ R, R = rowV (visitF nx f) (lg.set i (-1)) 0 (nx i) := ⟨_, rfl⟩
        rw [show ((0 : Nat) : Int) = 0 from rfl] at b1 b2 b3
        rw [← hR] at b1 b2 b3 ⊢
        obtain ⟨l, o⟩ := R
        simp only at b1 b2 b3
        subst b1
        have hlr : i < l.length := by rw [b2.len]; simp [hil]
        have hg2 : ∀ a, (l.set i ((m : Int) + 1)).getD a 0 = if i = a then (m : Int) + 1 else l.getD a 0 := fun a => getD_set _ _ _ _ hlr
        refine .inl ⟨rfl, ⟨by simp only [List.length_set]; rw [b2.len]; simp, fun a ha => ?_, fun a ha => ?_⟩, fun a => ?_, ?_⟩
        · have hne : ¬ i = a := fun e => by rw [← e] at ha; exact ha h0'
          have := b2.done a (by rw [hg1, if_neg hne]; exact ha)
          rw [hg1, if_neg hne] at this
          simp only
          rw [hg2, if_neg hne, this]
        · simp only at ha
          rw [hg2] at ha
          by_cases e : i = a
          · rw [if_pos e] at ha; omega
          · rw [if_neg e] at ha
            have := b2.gray a ha
            rw [hg1, if_neg e] at this
            exact this
        · simp only
          rw [hg2]
          by_cases e : i = a
          · subst e; rw [if_pos rfl]; exact .inr (.inr ⟨m, rfl, b4⟩)
          · rw [if_neg e]; exact b3 a
        · simp only
          rw [hg2, if_pos rfl]; omega
      · obtain ⟨R, hR⟩ : ∃ R, R = rowV (visitF nx f) (lg.set i (-1)) 0 (nx i) := ⟨_, rfl⟩
        rw [show ((0 : Nat) : Int) = 0 from rfl] at b1
        rw [← hR] at b1 ⊢
        obtain ⟨l, o⟩ := R
        simp only at b1
        subst b1
        exact .inr ⟨rfl, b2⟩
theorem search_ref {n : Nat} {es : List (Nat × Nat)} (h0 : 0 < n) (hb : ∀ e, e ∈ es → e.1 < n ∧ e.2 < n) (hreach : ∀ i, i < n → ∃ m, Pth (nxE es) 0 i m) :
    (visitF (nxE es) (n + 1) (List.replicate n 0) 0).2 = decide (∀ i, i < n → (longR n es).getD i 0 < (n : Int)) ∧
    ((visitF (nxE es) (n + 1) (List.replicate n 0) 0).2 = true → (visitF (nxE es) (n + 1) (List.replicate n 0) 0).1.getD 0 0 - 1 = (longR n es).getD 0 0 ∧ IsLong (nxE es) 0 ((longR n es).getD 0 0).toNat) := by
  obtain ⟨hc, hlong⟩ := longR_spec hb
  have hz : zeros (List.replicate n (0 : Int)) < n + 1 := by
    unfold zeros
    have := List.length_filter_le (fun x : Int => decide (x = 0)) (List.replicate n 0)
    simp only [List.length_replicate] at this
    omega
  have hrep : ∀ a, (List.replicate n (0 : Int)).getD a 0 = 0 := fun a => by
    simp only [List.getD_eq_getElem?_getD, List.getElem?_replicate]; split <;> simp
  rcases visit_spec (nx := nxE es) (n := n) (fun i k _ hk => (hb _ (nxE_mem.1 hk)).2) (n + 1) (List.replicate n 0) 0 (by simp) h0 hz (fun a => .inl (hrep a)) (fun a ha => by rw [hrep] at ha; omega) with ⟨a1, a2, a3, a4⟩ | ⟨a1, a2⟩
  · obtain ⟨m, g1, g2⟩ : ∃ m : Nat, (visitF (nxE es) (n + 1) (List.replicate n 0) 0).1.getD 0 0 = (m : Int) + 1 ∧ IsLong (nxE es) 0 m := by
      rcases a3 0 with h | h | h
      · omega
      · omega
      · exact h
    have hno : ¬ Cyc (nxE es) := by
      rintro ⟨c, q, p⟩
      have hcn : c < n := by
        cases p with
        | cons _ k _ _ h _ => exact (hb _ (nxE_mem.1 h)).1
      obtain ⟨r, pr⟩ := hreach c hcn
      obtain ⟨j, m', h1, h2⟩ := cyc_long p (m + 1)
      have := g2.2 _ _ (pr.trans h2)
      omega
    obtain ⟨m2, g3, g4⟩ := hlong hno 0 h0
    have := g2.uniq g4
    subst this
    refine ⟨?_, fun _ => ⟨by rw [g1, g3]; omega, by rw [g3]; simpa using g4⟩⟩
    rw [a1, eq_comm, decide_eq_true_eq]
    exact fun i hi => Int.not_le.1 (fun h => hno (hc.1 ⟨i, hi, h⟩))
  · refine ⟨?_, fun h => by rw [a1] at h; simp at h⟩
    rw [a1, eq_comm, decide_eq_false_iff_not]
    intro h
    obtain ⟨i, hi, hle⟩ := hc.2 a2
    have := h i hi
    omega
end Ab
set_option maxRecDepth 100000
namespace Ab
open Go Go.Proofs
@[reducible] def lgX (M n : Nat) (tb gb nxC : List AV) (lg : List Int) : List AObj :=
  [.cells tb, .cells gb, .cells nxC, .cells [.arr (M + 2) 0 n], .cells (encP lg), .cells [.arr (M + 4) 0 n], .cells [.fn 84 [.ptr (M + 5) 0, .ptr (M + 3) 0, .ptr (M + 6) 0]]]
theorem osc_lgX (m M n : Nat) (tb gb nxC : List AV) (lg : List Int) (h1 : ScopedL m tb) (h2 : ScopedL m gb) (h3 : ScopedL m nxC) (hn : M + 7 ≤ m) : ∀ o, o ∈ lgX M n tb gb nxC lg → OScoped m o := by
  intro o ho
  simp only [List.mem_cons, List.not_mem_nil, or_false] at ho
  rcases ho with rfl | rfl | rfl | rfl | rfl | rfl | rfl
  · exact h1
  · exact h2
  · exact h3
  · simp [OScoped, ScopedL, Scoped]; omega
  · exact scoped_encP _ _
  · simp [OScoped, ScopedL, Scoped]; omega
  · simp [OScoped, ScopedL, Scoped]; omega
theorem ok_lgX (X : List AObj) (n : Nat) (tb gb nxC : List AV) (lg lg' : List Int) (Y : List AObj) (h1 : ScopedL (X.length + 7) tb) (h2 : ScopedL (X.length + 7) gb) (h3 : ScopedL (X.length + 7) nxC) :
    OutOk (X ++ lgX X.length n tb gb nxC lg) (X ++ (lgX X.length n tb gb nxC lg' ++ Y)) (X.length + 7) :=
  outok_ex (H := X) (L := lgX X.length n tb gb nxC lg) (L' := lgX X.length n tb gb nxC lg') (Y := Y) (m := X.length + 7) rfl rfl (fun i o h => .inr (osc_lgX _ _ n tb gb nxC lg' h1 h2 h3 (Nat.le_refl _) o (List.mem_of_getElem? h)))
theorem take1 (lg : List Int) (i : Nat) (h : i < lg.length) : (lg.drop i).take 1 = [lg.getD i 0] := by
  have e : lg.drop i = lg.getD i 0 :: lg.drop (i + 1) := by
    rw [List.drop_eq_getElem_cons h]; congr 1; simp [h]
  rw [e]; simp
theorem encP1 (x : Int) : encL (AV.int .i64) [x] = [.int .i64 x] := rfl
theorem set_form (lg : List Int) (i : Nat) (v : Int) (h : i < lg.length) : encL (AV.int .i64) (lg.take i) ++ AV.int .i64 v :: encL (AV.int .i64) (lg.drop (i + 1)) = encP (lg.set i v) := by
  unfold encP encL
  rw [List.set_eq_take_append_cons_drop, if_pos h]
  simp
theorem leP (lg : List Int) (k : Nat) (h : k ≤ lg.length) : leL k (encP lg) := by
  exact leL_of (by rw [encL_length]; exact h)
set_option maxHeartbeats 2000000 in
theorem visit_ac (X : List AObj) (n : Nat) (hn : n < 1099511627776) (tb gb nxC : List AV) (nx : Nat → List Nat) (h1 : ScopedL (X.length + 7) tb) (h2 : ScopedL (X.length + 7) gb) (h3 : ScopedL (X.length + 7) nxC) (hl3 : nxC.length = n)
    (hnx : ∀ i, i < n → (∃ tk, (nxC.drop i).take 1 = [.sl tk (encP ((nx i).map Int.ofNat))]) ∧ (nx i).length < 1099511627776 ∧ ∀ k, k ∈ nx i → k < n) :
    ∀ (f : Nat) (lg : List Int) (i : Nat), lg.length = n → i < n → zeros lg < f → InvV nx lg → (∀ a, lg.getD a 0 = -1 → ∃ m, Pth nx a i (m + 1)) →
    ACall Tryz.prog 84 [.int .i64 i, .ptr (X.length + 5) 0, .ptr (X.length + 3) 0, .ptr (X.length + 6) 0] (X ++ lgX X.length n tb gb nxC lg) (fun r H' => r = .bool (visitF nx f lg i).2 ∧ H' = X ++ lgX X.length n tb gb nxC (visitF nx f lg i).1)
  | 0, _, _, _, _, h, _, _ => by omega
  | f + 1, lg, i, hl, hi, hz, hI, hg => by
    have hg1 := take1 lg i (by omega)
    have hs1 := set_form lg i (-1) (by omega)
    have hle := leP lg (i + 1) (by omega)
    have hle3 : leL (i + 1) nxC := leL_of (by omega)
    obtain ⟨⟨tk, hrow⟩, hrl, hrk⟩ := hnx i hi
    have hnk : ∀ i k, i < n → k ∈ nx i → k < n := fun i k hi hk => (hnx i hi).2.2 k hk
    rw [visitF]
    refine ACall_V (X.length + 7) 43 [.tmp 5] Tryz.func84 rfl rfl rfl ?_
    simp only [push_cast, Nat.reduceAdd, Nat.reduceSub, Nat.reduceMul, Nat.reduceLT, Nat.reduceLeDiff, Nat.reduceEqDiff, Int.reduceToNat, ↓reduceIte, Nat.mul_one, hg1, encP1]
    refine ⟨hi, hle, cI (fun h0 => ?_) (fun h0 => ?_)⟩
    · have hc : ¬ lg.getD i 0 ≠ 0 := by simpa using h0
      rw [if_neg hc]
      refine ⟨hi, hle, hi, hle3, ?_⟩
      rw [hrow]
      dsimp only
      refine AW_forget 25 (v := .sl tk (encP ((nx i).map Int.ofNat))) (v' := .sl .none (encP ((nx i).map Int.ofNat))) rfl (Forget.tok _ _) ?_
      obtain ⟨R, hR⟩ : ∃ R, R = rowV (visitF nx f) (lg.set i (-1)) 0 (nx i) := ⟨_, rfl⟩
      rw [← hR]
      have h00 : lg.getD i 0 = 0 := by omega
      have hil : i < lg.length := by omega
      have hz1 := zeros_set lg i (-1) hil h00 (by decide)
      have hgs : ∀ a, (lg.set i (-1)).getD a 0 = if i = a then -1 else lg.getD a 0 := fun a => getD_set _ _ _ _ hil
      refine AW_loopW (maskG 47 [0, 0, 1, 2, 18, 0, 0]) (fun (q : Nat × List Int × Nat) => [(27, .int .i64 q.1), (6, .int .i64 (q.2.2 : Nat))]) (fun q => X ++ lgX X.length n tb gb nxC q.2.1) (fun q => q.1 ≤ (nx i).length ∧ InvV nx q.2.1 ∧ Gr (lg.set i (-1)) q.2.1 ∧ q.2.2 ≤ n ∧ R = rowV (visitF nx f) q.2.1 q.2.2 ((nx i).drop q.1)) (fun q => (nx i).length - q.1) (0, lg.set i (-1), 0) ⟨Nat.zero_le _, fun a => by
          rw [hgs]; split
          · exact .inr (.inl rfl)
          · exact hI a, Gr.refl _, Nat.zero_le _, hR⟩ (by simp only [push_cast, Nat.reduceAdd, Nat.reduceSub, Nat.reduceMul, Nat.reduceLT, Nat.reduceLeDiff, Nat.reduceEqDiff, Int.reduceToNat, ↓reduceIte]; rw [hs1]; exact ⟨rfl, ok_lgX X n tb gb nxC lg (lg.set i (-1)) [] h1 h2 h3⟩) (fun q hq => ?_)
      obtain ⟨j, lg', mo⟩ := q
      obtain ⟨q1, q2, q3, q4, q5⟩ := hq
      simp only at q1 q2 q3 q4 q5
      have hl' : lg'.length = n := by rw [q3.len]; simp [hl]
      simp only [push_cast, Nat.reduceAdd, Nat.reduceSub, Nat.reduceMul, Nat.reduceLT, Nat.reduceLeDiff, Nat.reduceEqDiff, Int.reduceToNat, ↓reduceIte]
      refine cI (fun h => ?_) (fun h => ?_)
      · have hjl : j < (nx i).length := by rw [List.length_map] at h; omega
        obtain ⟨k, hk⟩ : ∃ k, k = (nx i)[j]'hjl := ⟨_, rfl⟩
        have hkm : k ∈ nx i := by rw [hk]; exact List.getElem_mem hjl
        have hkn := hrk k hkm
        rw [List.drop_eq_getElem_cons hjl, ← hk, rowV] at q5
        have hgk : ∀ a, lg'.getD a 0 = -1 → ∃ m, Pth nx a k (m + 1) := fun a ha => by
          have ha := q3.gray a ha
          rw [hgs] at ha
          by_cases e : i = a
          · subst e; exact ⟨0, .one hkm⟩
          · rw [if_neg e] at ha
            obtain ⟨m, p⟩ := hg a ha
            exact ⟨m + 1, p.trans (.one hkm)⟩
        have hz' : zeros lg' < f := by have := q3.zeros; omega
        have hv := visit_ac X n hn tb gb nxC nx h1 h2 h3 hl3 hnx f lg' k hl' hkn hz' q2 hgk
        have hsp := visit_spec hnk f lg' k hl' hkn hz' q2 hgk
        obtain ⟨V, hV⟩ : ∃ V, V = visitF nx f lg' k := ⟨_, rfl⟩
        rw [← hV] at hv hsp q5
        refine ⟨by rw [List.length_map]; exact hjl, ?_⟩
        rw [List.getElem_map, ← hk, show Int.ofNat k = ((k : Nat) : Int) from rfl]
        refine hv.to ?_
        simp only [push_cast, Nat.reduceAdd, Nat.reduceSub, Nat.reduceMul, Nat.reduceLT, Nat.reduceLeDiff, Nat.reduceEqDiff, Int.reduceToNat, ↓reduceIte]
        refine cI (fun hb => ?_) (fun hb => ?_)
        · rcases hsp with ⟨_, s2, s3, s4⟩ | ⟨s1, _⟩
          · obtain ⟨qq, hq⟩ : ∃ qq : Nat, V.1.getD k 0 = (qq : Int) + 1 := by
              rcases s3 k with e | e | ⟨m, e, _⟩
              · omega
              · omega
              · exact ⟨m, e⟩
            have hVl : V.1.length = n := by rw [s2.len, hl']
            have hqn := (s3.le hnk hkn).2
            have hmax : max (mo : Int) ((qq : Int) + 1) = ((max mo (qq + 1) : Nat) : Int) := by omega
            rw [if_pos hb, hq, hmax] at q5
            simp only [push_cast, Nat.reduceAdd, Nat.reduceSub, Nat.reduceMul, Nat.reduceLT, Nat.reduceLeDiff, Nat.reduceEqDiff, Int.reduceToNat, ↓reduceIte, Nat.mul_one, take1 V.1 k (by omega), encP1, hq, hmax]
            refine ⟨hkn, leP _ _ (by omega), ?_⟩
            repeat' first | refine ⟨by omega, ?_⟩ | refine cI (fun _ => ?_) (fun _ => ?_)
            refine loopW_n (j + 1, V.1, max mo (qq + 1)) ⟨by simp only; omega, s3, q3.trans s2, by simp only; omega, q5⟩ (by simp only; omega) (by simp only [push_cast, Nat.reduceAdd, Nat.reduceSub, Nat.reduceMul, Nat.reduceLT, Nat.reduceLeDiff, Nat.reduceEqDiff, Int.reduceToNat, ↓reduceIte]; exact ok_lgX X n tb gb nxC lg V.1 [] h1 h2 h3)
          · rw [s1] at hb; cases hb
        · rw [if_neg hb] at q5
          have hb2 : V.2 = false := by simpa using hb
          rw [q5]
          first | exact ⟨ok_lgX X n tb gb nxC lg V.1 [] h1 h2 h3, rfl, rfl⟩ | exact ⟨ok_lgX X n tb gb nxC lg V.1 [] h1 h2 h3, rfl⟩ | trace_state
      · have hje : j = (nx i).length := by rw [List.length_map] at h; omega
        rw [hje, List.drop_length, rowV] at q5
        have hs2 := set_form lg' i ((mo : Int) + 1) (by omega)
        simp only [push_cast, Nat.reduceAdd, Nat.reduceSub, Nat.reduceMul, Nat.reduceLT, Nat.reduceLeDiff, Nat.reduceEqDiff, Int.reduceToNat, ↓reduceIte, Nat.mul_one]
        rw [hs2, q5]
        first | exact ⟨⟨by omega, by omega⟩, hi, leP _ _ (by omega), ok_lgX X n tb gb nxC lg _ [] h1 h2 h3, rfl, rfl⟩ | trace_state
    · rw [if_pos h0]
      simp only [push_cast, Nat.reduceAdd, Nat.reduceSub, Nat.reduceMul, Nat.reduceLT, Nat.reduceLeDiff, Nat.reduceEqDiff, Int.reduceToNat, ↓reduceIte, Nat.mul_one, hg1, encP1]
      refine ⟨hi, hle, ?_⟩
      first | (exact ok_lgX X n tb gb nxC lg lg [] h1 h2 h3) | trace_state
end Ab
set_option maxRecDepth 10000
namespace Ab
open Go Go.Proofs
abbrev ChP := Term × List (Int × List Int)
end Ab
set_option maxRecDepth 10000
namespace Ab
open Go Go.Proofs
abbrev StP := Int × List Int
structure GX (rs : List (Term × Term)) (most : Nat) (t : Term) (g : GrP) : Prop where
  len : g.ts.length ≤ most
  hd : g.ts[0]? = some t
  ck : ∀ x, x ∈ g.ts → checkP x = 0
  ed : ∀ e, e ∈ g.es → 0 ≤ e.to ∧ e.to < g.ts.length ∧ 0 ≤ e.fr ∧ e.fr < g.ts.length ∧ e.st.2.length < 1099511627776
  pa : ∀ a, 0 < a → a < g.ts.length → ∃ e, g.es.find? (fun e => decide (e.to = (a : Int))) = some e ∧ 0 ≤ e.fr ∧ e.fr < a ∧ doE rs (g.ts.getD e.fr.toNat zeroT) e.st = (g.ts.getD a zeroT, 0)
theorem getT_app {ts : List Term} {u : Term} {i : Nat} (h : i < ts.length) : (ts ++ [u]).getD i zeroT = ts.getD i zeroT := by
  rw [List.getD_eq_getElem?_getD, List.getD_eq_getElem?_getD, List.getElem?_append_left h]
theorem find_snoc {es : List Edg} {x e : Edg} {p : Edg → Bool} (h : es.find? p = some e) : (es ++ [x]).find? p = some e := by
  rw [List.find?_append, h]; rfl
theorem GX.step {rs : List (Term × Term)} (hr : sysP rs = 0) {most i : Nat} {t u : Term} {g : GrP} (h : GX rs most t g) (hu : g.ts[i]? = some u) {s : StP} (hs : s ∈ allS rs u) (hd : (doE rs u s).2 = 0) : GX rs most t (exStep most i g s (doE rs u s).1) := by
  obtain ⟨hi, hiu⟩ := List.getElem?_eq_some_iff.1 hu
  have huc : checkP u = 0 := by rw [← hiu]; exact h.ck _ (List.getElem_mem hi)
  have hvc := do_check (s := s) hr huc hd
  have hsl : s.2.length < 1099511627776 := by
    have := step_len hs; have := check_small huc; omega
  obtain ⟨v, hv⟩ : ∃ v, v = (doE rs u s).1 := ⟨_, rfl⟩
  have hdo : doE rs u s = (v, 0) := Prod.ext hv.symm hd
  rw [← hv] at hvc ⊢
  by_cases hm : v ∈ g.ts
  · have hx := List.idxOf_lt_length_of_mem hm
    have e : exStep most i g s v = ⟨g.ts, g.es ++ [⟨i, ((g.ts.idxOf v : Nat) : Int), s⟩], g.wh⟩ := by unfold exStep addTs addR addW; simp [hm]
    rw [e]
    refine ⟨h.len, h.hd, h.ck, fun e he => ?_, fun a h1 h2 => ?_⟩
    · rcases List.mem_append.1 he with he | he
      · exact h.ed e he
      · rw [List.mem_singleton] at he; subst he
        exact ⟨by simp only; omega, by simp only; omega, by simp only; omega, by simp only; omega, hsl⟩
    · obtain ⟨e, q1, q2⟩ := h.pa a h1 h2
      exact ⟨e, find_snoc q1, q2⟩
  · by_cases hmo : most ≤ g.ts.length
    · have e : exStep most i g s v = ⟨g.ts, g.es, false⟩ := by unfold exStep addTs addR addW; simp [hm, hmo]
      rw [e]
      exact ⟨h.len, h.hd, h.ck, h.ed, h.pa⟩
    · have e : exStep most i g s v = ⟨g.ts ++ [v], g.es ++ [⟨i, ((g.ts.length : Nat) : Int), s⟩], g.wh⟩ := by unfold exStep addTs addR addW; simp [hm, hmo]
      rw [e]
      have hl1 : (g.ts ++ [v]).length = g.ts.length + 1 := by simp
      refine ⟨by simp only [hl1]; omega, ?_, fun x hx => ?_, fun e he => ?_, fun a h1 h2 => ?_⟩
      · rw [List.getElem?_append_left (by omega)]; exact h.hd
      · rcases List.mem_append.1 hx with hx | hx
        · exact h.ck x hx
        · rw [List.mem_singleton] at hx; rw [hx]; exact hvc
      · simp only [hl1]
        rcases List.mem_append.1 he with he | he
        · have := h.ed e he
          omega
        · rw [List.mem_singleton] at he; subst he
          exact ⟨by simp only; omega, by simp only; omega, by simp only; omega, by simp only; omega, hsl⟩
      · simp only [hl1] at h2
        by_cases ha : a = g.ts.length
        · subst ha
          refine ⟨⟨i, ((g.ts.length : Nat) : Int), s⟩, ?_, by simp only; omega, by simp only; omega, ?_⟩
          · rw [List.find?_append, List.find?_eq_none.2 (fun e he => by have := h.ed e he; simp; omega)]
            simp
          · have e1 : (g.ts ++ [v]).getD (i : Int).toNat zeroT = u := by
              rw [show (i : Int).toNat = i by omega, getT_app hi, List.getD_eq_getElem?_getD, hu]; rfl
            have e2 : (g.ts ++ [v]).getD g.ts.length zeroT = v := by
              rw [List.getD_eq_getElem?_getD, List.getElem?_append_right (Nat.le_refl _)]; simp
            simp only [e1, e2]
            exact hdo
        · obtain ⟨e, q1, q2, q3, q4⟩ := h.pa a h1 (by omega)
          refine ⟨e, find_snoc q1, q2, q3, ?_⟩
          simp only
          rw [getT_app (by omega), getT_app (by omega)]
          exact q4
theorem GX.row {rs : List (Term × Term)} (hr : sysP rs = 0) {most i : Nat} {t u : Term} : ∀ (l : List StP) (g : GrP), (∀ s, s ∈ l → s ∈ allS rs u) → GX rs most t g → g.ts[i]? = some u → (exRow rs most i u g l).2 = 0 → GX rs most t (exRow rs most i u g l).1 ∧ (exRow rs most i u g l).1.es.length ≤ g.es.length + l.length
  | [], g, _, h, _, _ => ⟨h, by simp [exRow]⟩
  | s :: l, g, hl, h, hu, h0 => by
    rw [exRow] at h0 ⊢
    by_cases hd : (doE rs u s).2 ≠ 0
    · rw [if_pos hd] at h0; exact absurd h0 hd
    · rw [if_neg hd] at h0 ⊢
      have h1 := h.step hr hu (hl s (by simp)) (by simpa using hd)
      have h2 : (exStep most i g s (doE rs u s).1).ts[i]? = some u := addTs_get hu
      obtain ⟨q1, q2⟩ := GX.row hr l _ (fun x hx => hl x (by simp [hx])) h1 h2 h0
      refine ⟨q1, ?_⟩
      have : (exStep most i g s (doE rs u s).1).es.length ≤ g.es.length + 1 := by unfold exStep; split <;> simp
      rw [List.length_cons]
      omega
theorem GX.expl {rs : List (Term × Term)} (hr : sysP rs = 0) {most : Nat} {t : Term} : ∀ (n i : Nat) (g : GrP), GX rs most t g → (expF rs most n i g).2 = 0 → GX rs most t (expF rs most n i g).1 ∧ (expF rs most n i g).1.es.length ≤ g.es.length + n * 256000
  | 0, _, g, h, _ => ⟨h, by simp [expF]⟩
  | n + 1, i, g, h, h0 => by
    rw [expF] at h0 ⊢
    cases hu : g.ts[i]? with
    | none => exact ⟨h, by simp⟩
    | some u =>
      rw [hu] at h0
      simp only at h0 ⊢
      obtain ⟨hi, hiu⟩ := List.getElem?_eq_some_iff.1 hu
      have huc : checkP u = 0 := by rw [← hiu]; exact h.ck _ (List.getElem_mem hi)
      have hal := allS_len hr huc
      by_cases hd : (exRow rs most i u g (allS rs u)).2 ≠ 0
      · rw [if_pos hd] at h0; exact absurd h0 hd
      · rw [if_neg hd] at h0 ⊢
        obtain ⟨q1, q2⟩ := GX.row hr (allS rs u) g (fun _ h => h) h hu (by simpa using hd)
        obtain ⟨p1, p2⟩ := GX.expl hr n (i + 1) _ q1 h0
        exact ⟨p1, by omega⟩
theorem explore_spec {rs : List (Term × Term)} (hr : sysP rs = 0) {t : Term} (ht : checkP t = 0) {most : Nat} (hm : 1 ≤ most) (hm2 : most ≤ 4096) (h : (exploreF rs t most).2 = 0) : GX rs most t (exploreF rs t most).1 ∧ (exploreF rs t most).1.es.length < 1099511627776 := by
  have h0 : GX rs most t ⟨[t], [], true⟩ := ⟨by simpa using hm, rfl, by intro x hx; simp at hx; rw [hx]; exact ht, by intro e he; simp at he, by intro a h1 h2; simp at h2; omega⟩
  obtain ⟨q1, q2⟩ := GX.expl hr most 0 ⟨[t], [], true⟩ h0 h
  refine ⟨q1, ?_⟩
  unfold exploreF
  simp only [List.length_nil] at q2
  omega
end Ab
set_option maxRecDepth 100000
namespace Ab
open Go Go.Proofs
def natE (es : List Edg) : List (Nat × Nat) := es.map fun e => (e.fr.toNat, e.to.toNat)
def rowI (es : List Edg) (i k : Nat) : List Int := (nxE (natE (es.take i)) k).map Int.ofNat
def XO (H : List AObj) (es : List Edg) (n i : Nat) : List AObj := H ++ (List.range n).map fun k => gTok 3 1 (encP (rowI es i k))
def nxC (b : Nat) (es : List Edg) (n i : Nat) : List AV := (List.range n).map fun k => gSl (b + k) (encP (rowI es i k))
theorem XO_len (H : List AObj) (es : List Edg) (n i : Nat) : (XO H es n i).length = H.length + n := by simp [XO]
theorem XO_zero (H : List AObj) (es : List Edg) (n : Nat) : H ++ List.replicate n .dead = XO H es n 0 := by
  unfold XO
  congr 1
  apply List.ext_getElem
  · simp
  · intro k h1 h2
    simp [rowI, natE, nxE, encP, encL, gTok]
theorem nxC_len (b : Nat) (es : List Edg) (n i : Nat) : (nxC b es n i).length = n := by simp [nxC]
theorem nxC_zero (b : Nat) (es : List Edg) (n : Nat) : List.replicate n (AV.sl .zero []) = nxC b es n 0 := by
  unfold nxC
  apply List.ext_getElem
  · simp
  · intro k h1 h2
    simp [rowI, natE, nxE, encP, encL, gSl]
theorem rowI_succ (es : List Edg) (i : Nat) (h : i < es.length) (k : Nat) : rowI es (i + 1) k = if k = (es[i]).fr.toNat then rowI es i k ++ [(((es[i]).to.toNat : Nat) : Int)] else rowI es i k := by
  unfold rowI natE nxE
  rw [List.take_succ_eq_append_getElem h, List.map_append, List.filter_append, List.map_append, List.map_append]
  by_cases hk : k = (es[i]).fr.toNat
  · rw [if_pos hk]
    simp [← hk]
  · rw [if_neg hk]
    have : ¬ (es[i]).fr.toNat = k := fun e => hk e.symm
    simp [this]
theorem XO_get (H : List AObj) (es : List Edg) (n i k : Nat) (h : k < n) (L : List AObj) : (XO H es n i ++ L)[H.length + k]? = some (gTok 3 1 (encP (rowI es i k))) := by
  rw [List.getElem?_append_left (by rw [XO_len]; omega)]
  unfold XO
  rw [List.getElem?_append_right (by omega)]
  simp [h]
theorem XO_set (H : List AObj) (es : List Edg) (n i : Nat) (h : i < es.length) (hf : (es[i]).fr.toNat < n) (L : List AObj) :
    (XO H es n i ++ L).set (H.length + (es[i]).fr.toNat) (gTok 3 1 (encP (rowI es i (es[i]).fr.toNat ++ [(((es[i]).to.toNat : Nat) : Int)]))) = XO H es n (i + 1) ++ L := by
  rw [List.set_append_left _ _ (by rw [XO_len]; omega)]
  congr 1
  unfold XO
  rw [List.set_append_right _ _ (by omega)]
  congr 1
  apply List.ext_getElem
  · simp
  · intro k h1 h2
    rw [List.getElem_set]
    simp only [List.getElem_map, List.getElem_range, Nat.add_sub_cancel_left]
    rw [rowI_succ es i h k]
    by_cases hk : k = (es[i]).fr.toNat
    · rw [if_pos hk.symm, if_pos hk, hk]
    · rw [if_neg (fun e => hk e.symm), if_neg hk]
theorem nxC_get (b : Nat) (es : List Edg) (n i k : Nat) (h : k < n) : ((nxC b es n i).drop k).take 1 = [gSl (b + k) (encP (rowI es i k))] := by
  have hl : k < (nxC b es n i).length := by rw [nxC_len]; exact h
  rw [List.drop_eq_getElem_cons hl]
  simp [nxC]
theorem nxC_set (b : Nat) (es : List Edg) (n i : Nat) (h : i < es.length) (hf : (es[i]).fr.toNat < n) :
    (nxC b es n i).take (es[i]).fr.toNat ++ gSl (b + (es[i]).fr.toNat) (encP (rowI es i (es[i]).fr.toNat ++ [(((es[i]).to.toNat : Nat) : Int)])) :: (nxC b es n i).drop ((es[i]).fr.toNat + 1) = nxC b es n (i + 1) := by
  have hq := List.set_eq_take_append_cons_drop (l := nxC b es n i) (i := (es[i]).fr.toNat) (a := gSl (b + (es[i]).fr.toNat) (encP (rowI es i (es[i]).fr.toNat ++ [(((es[i]).to.toNat : Nat) : Int)])))
  rw [if_pos (by rw [nxC_len]; exact hf)] at hq
  rw [← hq]
  apply List.ext_getElem
  · simp [nxC_len]
  · intro k h1 h2
    rw [List.getElem_set]
    simp only [nxC, List.getElem_map, List.getElem_range]
    rw [rowI_succ es i h k]
    by_cases hk : k = (es[i]).fr.toNat
    · rw [if_pos hk.symm, if_pos hk, hk]
    · rw [if_neg (fun e => hk e.symm), if_neg hk]
theorem ok_lo (H : List AObj) (es : List Edg) (n i j : Nat) (L : List AObj) (hj : j ≤ L.length) (h : ∀ o, o ∈ L.take j → OScoped (H.length + n + j) o) : OutOk H (XO H es n i ++ L) (H.length + n + j) := by
  unfold XO
  rw [List.append_assoc]
  refine outok_app (n + j) (by omega) (by simp; omega) (fun o ho => ?_)
  rw [List.take_append] at ho
  rcases List.mem_append.1 ho with ho | ho
  · have ho := List.mem_of_mem_take ho
    obtain ⟨k, _, rfl⟩ := List.mem_map.1 ho
    cases rowI es i k <;> exact trivial
  · simp only [List.length_map, List.length_range, Nat.add_sub_cancel_left] at ho
    exact h o ho
theorem nxC_sc (m b : Nat) (es : List Edg) (n i : Nat) (h : b + n ≤ m) : ScopedL m (nxC b es n i) := by
  refine ScopedL_iff.2 (fun v hv => ?_)
  obtain ⟨k, hk, rfl⟩ := List.mem_map.1 hv
  have hk' : k < n := by simpa using hk
  cases hr : rowI es i k with
  | nil => exact trivial
  | cons a r => exact ⟨by omega, scoped_encP _ (a :: r)⟩
section
variable {P : Program} {ro : Option Nat} {st : ASt} {K : AV → List AObj → Prop} {dst : Option Tmp} {ty : TypeId} {pos : String} {after : Array Edge} {guard : Option (Nat × Bool)}
theorem appI_T {t e by_ : Nat} {s x : Operand} (zs : List Value) (H : List AObj) (es : List Edg) (n i : Nat) (L : List AObj) (tk : Tok) (h : i < es.length) (hf : (es[i]).fr.toNat < n) (hs : st.opd s = gSl (H.length + (es[i]).fr.toNat) (encP (rowI es i (es[i]).fr.toNat))) (hx : st.opd x = .sl tk [.int .i64 (((es[i]).to.toNat : Nat) : Int)]) (hh : st.heap = XO H es n i ++ L)
    (ht : SliceT P t e) (he : e = 3) (hsz : SzOf P e 1) (hby : BytesOf P e by_) (hz : ZeroOf P e zs) (hz0 : zs.length = 1) (hb : by_ ≤ 100) (hl : (rowI es i (es[i]).fr.toNat).length < 1099511627776)
    (k' : K (gSl (H.length + (es[i]).fr.toNat) (encP (rowI es i (es[i]).fr.toNat ++ [(((es[i]).to.toNat : Nat) : Int)]))) (XO H es n (i + 1) ++ L)) :
    AOp P ro ⟨dst, .call { callee := .builtin .append, args := #[s, x], argTypes := #[t, t] }, ty, pos, after, guard⟩ K st := by
  subst he
  rw [← XO_set H es n i h hf L, ← hh] at k'
  exact app1_L (fun i : Int => AV.int .i64 i) (sz := 1) (fun _ => rfl) (by intro x c hc; simp [AV.cells] at hc; subst hc; rfl) zs (H.length + (es[i]).fr.toNat) (rowI es i (es[i]).fr.toNat) (((es[i]).to.toNat : Nat) : Int) tk hs hx (by rw [hh]; exact XO_get H es n i _ hf L) ht hsz hby hz hz0 (by decide) hb hl k'
end
theorem row_len (es : List Edg) (i k : Nat) : (rowI es i k).length ≤ es.length := by
  unfold rowI nxE natE
  simp only [List.length_map]
  refine Nat.le_trans (List.length_filter_le _ _) ?_
  simp only [List.length_map, List.length_take]
  omega
theorem fin_lo (H : List AObj) (es : List Edg) (n i : Nat) (L : List AObj) : OutOk H (XO H es n i ++ L) H.length ∧ List.take H.length (XO H es n i ++ L) = H := by
  unfold XO
  rw [List.append_assoc]
  exact ⟨outok_app 0 rfl (Nat.zero_le _) (fun o ho => by simp at ho), by simp⟩
def longF (g : GrP) : Int × Bool := if g.wh = true then (if (visitF (nxE (natE g.es)) (g.ts.length + 1) (List.replicate g.ts.length 0) 0).2 = true then ((visitF (nxE (natE g.es)) (g.ts.length + 1) (List.replicate g.ts.length 0) 0).1.getD 0 0 - 1, true) else (0, false)) else (0, false)
set_option maxHeartbeats 4000000 in
theorem longest_ac (rs : List (Term × Term)) (hlen : rs.length < 1099511627776) (hb : BndR rs) (t : Term) (ht : t.bulk ≤ 1099511627775) (most : Int) (g : GrP) (hg : exploreE rs t most = (g, 0)) (h0 : 0 < g.ts.length) (hn : g.ts.length ≤ 4096)
    (hes : ∀ e, e ∈ g.es → 0 ≤ e.to ∧ e.to < g.ts.length ∧ 0 ≤ e.fr ∧ e.fr < g.ts.length) (hel : g.es.length < 1099511627776) (H : List AObj) :
    ACall Tryz.prog 38 [.sl .none (encL encRu rs), encT t, .int .i64 most] H (fun r H' => r = .tup [.int .i64 (longF g).1, .bool (longF g).2, .int .i64 0] ∧ H' = H) := by
  have hex := fun X => exploreX_ac rs hlen hb t ht most X
  rw [hg] at hex
  obtain ⟨n, hnn⟩ : ∃ n, n = g.ts.length := ⟨_, rfl⟩
  rw [← hnn] at h0 hn hes
  refine ACall_VA (H.length) 65 [.tmp 6, .tmp 7, .tmp 8] Tryz.func38 rfl rfl rfl ?_
  refine AW_reserve n ?_
  rw [XO_zero H g.es n]
  obtain ⟨M, hM⟩ : ∃ M, M = H.length + n := ⟨_, rfl⟩
  have hlx : ∀ i, (XO H g.es n i).length = M := fun i => by rw [XO_len, hM]
  have lk0 : ∀ i L, (XO H g.es n i ++ L)[M]? = L[0]? := fun i L => by rw [← hlx i, List.getElem?_append_right (Nat.le_refl _), Nat.sub_self]
  have lk : ∀ i L k, (XO H g.es n i ++ L)[M + k]? = L[k]? := fun i L k => by rw [← hlx i, List.getElem?_append_right (Nat.le_add_right _ _), Nat.add_sub_cancel_left]
  have st0 : ∀ i L v, (XO H g.es n i ++ L).set M v = XO H g.es n i ++ L.set 0 v := fun i L v => by rw [← hlx i, List.set_append_right _ _ (Nat.le_refl _), Nat.sub_self]
  have st : ∀ i L k v, (XO H g.es n i ++ L).set (M + k) v = XO H g.es n i ++ L.set k v := fun i L k v => by rw [← hlx i, List.set_append_right _ _ (Nat.le_add_right _ _), Nat.add_sub_cancel_left]
  have tk : ∀ i L k, (XO H g.es n i ++ L).take (M + k) = XO H g.es n i ++ L.take k := fun i L k => by rw [← hlx i, List.take_length_add_append]
  refine AW_of_W ?_
  simp only [push_cast, Nat.reduceAdd, Nat.reduceSub, Nat.reduceMul, Nat.reduceLT, Nat.reduceLeDiff, Nat.reduceEqDiff, Int.reduceToNat, ↓reduceIte, hlx, lk0, lk, st0, st, tk]
  refine (hex _).to ?_
  simp only [push_cast, Nat.reduceAdd, Nat.reduceSub, Nat.reduceMul, Nat.reduceLT, Nat.reduceLeDiff, Nat.reduceEqDiff, Int.reduceToNat, ↓reduceIte, encGE, ← hnn, hlx, lk0, lk, st0, st, tk]
  unfold longF
  rw [← hnn]
  cases hw : g.wh
  · simp only [push_cast, Nat.reduceAdd, Nat.reduceSub, Nat.reduceMul, Nat.reduceLT, Nat.reduceLeDiff, Nat.reduceEqDiff, Int.reduceToNat, ↓reduceIte, hlx, lk0, lk, st0, st, tk]
    exact fin_lo H g.es n 0 _
  · simp only [push_cast, Nat.reduceAdd, Nat.reduceSub, Nat.reduceMul, Nat.reduceLT, Nat.reduceLeDiff, Nat.reduceEqDiff, Int.reduceToNat, ↓reduceIte, encGE, ← hnn, hlx, lk0, lk, st0, st, tk]
    refine AOp_make1 n _ _ _ rfl rfl sl121 sz48 by48 zr48 rfl (by decide) (by omega) ?_
    simp only [push_cast, Nat.reduceAdd, Nat.reduceSub, Nat.reduceMul, Nat.reduceLT, Nat.reduceLeDiff, Nat.reduceEqDiff, Int.reduceToNat, ↓reduceIte, hlx, lk0, lk, st0, st, tk]
    rw [nxC_zero H.length g.es n]
    have htb : ∀ m, ScopedL m [AV.str t.name, AV.bool t.var, AV.sl Tok.none (encTs t.args)] := fun m => ⟨trivial, trivial, scoped_encTs _ t.args, trivial⟩
    have hgb : ∀ m, ScopedL m [AV.sl Tok.none (encTs g.ts), AV.sl Tok.none (encL encE g.es), AV.bool true] := fun m => ⟨scoped_encTs _ g.ts, of_eq_true (scopedE _ g.es), trivial, trivial⟩
    have hok : ∀ i (Y : List AObj), OutOk H (XO H g.es n i ++ (AObj.cells [AV.str t.name, AV.bool t.var, AV.sl Tok.none (encTs t.args)] :: AObj.cells [AV.sl Tok.none (encTs g.ts), AV.sl Tok.none (encL encE g.es), AV.bool true] :: AObj.cells (nxC H.length g.es n i) :: AObj.cells [AV.arr (M + 2) 0 n] :: Y)) (M + 4) := fun i Y => by
      rw [hM]
      refine ok_lo H g.es n i 4 _ (by simp) (fun o ho => ?_)
      simp only [List.take_succ_cons, List.take_zero, List.mem_cons, List.not_mem_nil, or_false] at ho
      rcases ho with rfl | rfl | rfl | rfl
      · exact htb _
      · exact hgb _
      · exact nxC_sc _ _ _ _ _ (by omega)
      · first | (simp [OScoped, ScopedL, Scoped]; done) | (simp [OScoped, ScopedL, Scoped]; omega)
    refine AW_loopW (maskG 68 [9, 1, 24, 0, 0]) (fun (i : Nat) => [(38, .int .i64 i)]) (fun i => XO H g.es n i ++ [.cells [.str t.name, .bool t.var, .sl .none (encTs t.args)], .cells [.sl .none (encTs g.ts), .sl .none (encL encE g.es), .bool true], .cells (nxC H.length g.es n i), .cells [.arr (M + 2) 0 n]]) (fun i => i ≤ g.es.length) (fun i => g.es.length - i) 0 (Nat.zero_le _) (by simp only [push_cast, Nat.reduceAdd, Nat.reduceSub, Nat.reduceMul, Nat.reduceLT, Nat.reduceLeDiff, Nat.reduceEqDiff, Int.reduceToNat, ↓reduceIte, hlx, lk0, lk, st0, st, tk]; first | done | exact hok 0 []) (fun i hi => ?_)
    simp only [push_cast, Nat.reduceAdd, Nat.reduceSub, Nat.reduceMul, Nat.reduceLT, Nat.reduceLeDiff, Nat.reduceEqDiff, Int.reduceToNat, ↓reduceIte, hlx, lk0, lk, st0, st, tk]
    refine cI (fun h => ?_) (fun h => ?_)
    · have hil : i < g.es.length := by omega
      obtain ⟨e1, e2, e3, e4⟩ := hes _ (List.getElem_mem hil)
      obtain ⟨f, hf⟩ : ∃ f, f = (g.es[i]'hil).fr.toNat := ⟨_, rfl⟩
      obtain ⟨o, ho⟩ : ∃ o, o = (g.es[i]'hil).to.toNat := ⟨_, rfl⟩
      have hfi : (g.es[i]'hil).fr = ((f : Nat) : Int) := by omega
      have hoi : (g.es[i]'hil).to = ((o : Nat) : Int) := by omega
      have hfn : f < n := by omega
      have hget := nxC_get H.length g.es n i f hfn
      have hset := nxC_set H.length g.es n i hil (by omega)
      rw [← hf, ← ho] at hset
      have hrl := row_len g.es i f
      have hle1 : leL (f + 1) (nxC H.length g.es n i) := leL_of (by rw [nxC_len]; omega)
      refine ⟨hil, ?_⟩
      apply AW_drawE [some 42, some 43, some 44, some 45, some 46, some 47, some 48, some 49, some 50, some 51, some 52, some 53, some 54, none] [([false, false], _), ([true, false], _), ([true, true], _)] [none, none, none, none, none, none, none, none, none, none, none, some 0, none, some 1] 2 [(0, [false, false], [11]), (1, [false, false], [13]), (2, [false, false], [43]), (3, [false, false], [11]), (4, [false, false], [13]), (5, [false, false], [46]), (6, [false, false], [45, 1]), (7, [false, false], [48]), (8, [false, false], [13]), (9, [false, false], [50]), (10, [false, false], [51]), (11, [false, false], [49, 2]), (12, [true, false], [42, 1]), (13, [true, false], [53, 0]), (0, [true, false], [11]), (1, [true, false], [13]), (2, [true, false], [43]), (3, [true, false], [11]), (4, [true, false], [13]), (5, [true, false], [46]), (6, [true, false], [45, 1]), (8, [true, false], [13]), (9, [true, false], [50])] [_, _, _, _, _, _, _, _, _, _, _, _, _, _]
      case' hm => exact dr
      case' hn => rfl
      case' hok => rfl
      case' hlen => rfl
      case' hd => rfl
      case' h0 => rfl
      case' hstep =>
       simp only [DAllG, push_cast, Option.isSome_some, Option.isSome_none]
       repeat' apply And.intro
       all_goals (apply DOne_V; simp only [push_cast, Nat.reduceAdd, Nat.reduceSub, Nat.reduceMul, Nat.reduceLT, Nat.reduceLeDiff, Nat.reduceEqDiff, Int.reduceToNat, ↓reduceIte, hfi, hoi, Nat.mul_one, hget, hlx, lk0, lk, st0, st, tk] <;> first | exact rfl | omega | exact ⟨rfl, rfl⟩ | exact trivial | exact ⟨by omega, rfl⟩ | exact ⟨by omega, by omega, rfl⟩ | exact ⟨by omega, rfl, rfl⟩ | exact ⟨by omega, by omega, rfl, rfl⟩ | (refine appI_T _ H g.es n i _ _ hil (by omega) (by rw [← hf]; rfl) (by rw [← ho]; rfl) rfl sl48 rfl sz3 by3 zr3 rfl (by decide) (by rw [← hf]; omega) ?_; rw [← hf, ← ho]; exact ⟨rfl, rfl⟩) | exact ⟨hfn, hle1, rfl⟩ | exact ⟨hfn, rfl⟩ | trace_state)
      case' hQ => skip
      simp only [push_cast, Nat.reduceAdd, Nat.reduceSub, Nat.reduceMul, Nat.reduceLT, Nat.reduceLeDiff, Nat.reduceEqDiff, Int.reduceToNat, ↓reduceIte, hlx, lk0, lk, st0, st, tk]
      refine ⟨⟨by omega, by omega⟩, loopW_n (i + 1) (by omega) (by omega) ?_⟩
      simp only [push_cast, Nat.reduceAdd, Nat.reduceSub, Nat.reduceMul, Nat.reduceLT, Nat.reduceLeDiff, Nat.reduceEqDiff, Int.reduceToNat, ↓reduceIte, hlx, lk0, lk, st0, st, tk, hset]
      exact hok (i + 1) _
    · have hie : i = g.es.length := by omega
      subst hie
      rw [← hnn]
      refine AOp_make1 n _ _ _ rfl rfl sl48 sz3 by3 zr3 rfl (by decide) (by omega) ?_
      simp only [push_cast, Nat.reduceAdd, Nat.reduceSub, Nat.reduceMul, Nat.reduceLT, Nat.reduceLeDiff, Nat.reduceEqDiff, Int.reduceToNat, ↓reduceIte, hlx, lk0, lk, st0, st, tk]
      have hrep : List.replicate n (AV.int .i64 0) = encP (List.replicate n 0) := by unfold encP encL; rw [List.map_replicate]
      have hrow : ∀ k, rowI g.es g.es.length k = (nxE (natE g.es) k).map Int.ofNat := fun k => by unfold rowI; rw [List.take_length]
      have hnk : ∀ i k, i < n → k ∈ nxE (natE g.es) i → k < n := fun i k _ hk => by
        have h3 := nxE_mem.1 hk
        unfold natE at h3
        obtain ⟨e, he, h4⟩ := List.mem_map.1 h3
        have h5 := hes e he
        injection h4 with h6 h7
        omega
      have hI0 : InvV (nxE (natE g.es)) (List.replicate n 0) := fun a => .inl (by simp only [List.getD_eq_getElem?_getD, List.getElem?_replicate]; split <;> rfl)
      have hg0 : ∀ a, (List.replicate n (0 : Int)).getD a 0 = -1 → ∃ m, Pth (nxE (natE g.es)) a 0 (m + 1) := fun a ha => by
        have : (List.replicate n (0 : Int)).getD a 0 = 0 := by simp only [List.getD_eq_getElem?_getD, List.getElem?_replicate]; split <;> rfl
        omega
      have hz0 : zeros (List.replicate n (0 : Int)) < n + 1 := by
        unfold zeros
        have := List.length_filter_le (fun x : Int => decide (x = 0)) (List.replicate n 0)
        simp only [List.length_replicate] at this
        omega
      have hv := visit_ac (XO H g.es n g.es.length) n (by omega) [.str t.name, .bool t.var, .sl .none (encTs t.args)] [.sl .none (encTs g.ts), .sl .none (encL encE g.es), .bool true] (nxC H.length g.es n g.es.length) (nxE (natE g.es)) (htb _) (hgb _) (nxC_sc _ _ _ _ _ (by rw [hlx]; omega)) (nxC_len _ _ _ _) (fun i hi => by
        have h3 := nxC_get H.length g.es n g.es.length i hi
        obtain ⟨tk, ht⟩ := gSl_tk2 (H.length + i) (encP (rowI g.es g.es.length i))
        refine ⟨⟨tk, by rw [h3, ht, hrow]⟩, ?_, fun k hk => hnk i k hi hk⟩
        have := row_len g.es g.es.length i
        rw [hrow, List.length_map] at this
        omega) (n + 1) (List.replicate n 0) 0 (by simp) h0 hz0 hI0 hg0
      have hsp := visit_spec hnk (n + 1) (List.replicate n 0) 0 (by simp) h0 hz0 hI0 hg0
      obtain ⟨V, hV⟩ : ∃ V, V = visitF (nxE (natE g.es)) (n + 1) (List.replicate n 0) 0 := ⟨_, rfl⟩
      rw [← hV] at hv hsp ⊢
      rw [hlx] at hv
      rw [hrep]
      refine hv.to ?_
      simp only [push_cast, Nat.reduceAdd, Nat.reduceSub, Nat.reduceMul, Nat.reduceLT, Nat.reduceLeDiff, Nat.reduceEqDiff, Int.reduceToNat, ↓reduceIte, hlx, lk0, lk, st0, st, tk]
      refine cI (fun hb => ?_) (fun hb => ?_)
      · rw [if_pos hb]
        rcases hsp with ⟨_, s2, s3, s4⟩ | ⟨s1, _⟩
        · have hVl : V.1.length = n := by rw [s2.len]; simp
          have hle := (s3.le hnk h0).2
          have ht1 := take1 V.1 0 (by omega)
          rw [List.drop_zero] at ht1
          rw [ht1]
          simp only [push_cast, Nat.reduceAdd, Nat.reduceSub, Nat.reduceMul, Nat.reduceLT, Nat.reduceLeDiff, Nat.reduceEqDiff, Int.reduceToNat, ↓reduceIte, encP1]
          refine ⟨by omega, h0, leP _ _ (by omega), ⟨by omega, by omega⟩, ?_⟩
          first | exact fin_lo H g.es n g.es.length _ | exact ⟨(fin_lo H g.es n g.es.length _).1, rfl, rfl, (fin_lo H g.es n g.es.length _).2⟩ | trace_state
        · rw [s1] at hb; cases hb
      · rw [if_neg hb]
        simp only [push_cast, Nat.reduceAdd, Nat.reduceSub, Nat.reduceMul, Nat.reduceLT, Nat.reduceLeDiff, Nat.reduceEqDiff, Int.reduceToNat, ↓reduceIte]
        first | exact fin_lo H g.es n g.es.length _ | exact ⟨(fin_lo H g.es n g.es.length _).1, rfl, rfl, (fin_lo H g.es n g.es.length _).2⟩ | trace_state
end Ab
set_option maxRecDepth 100000
namespace Ab
open Go Go.Proofs
theorem relax_bd {lg : List Int} {e : Nat × Nat} (he : e.1 < lg.length) {B : Int} (h : ∀ a, 0 ≤ lg.getD a 0 ∧ lg.getD a 0 ≤ B) : ∀ a, 0 ≤ (relax lg e).getD a 0 ∧ (relax lg e).getD a 0 ≤ B + 1 := fun a => by
  rw [relax_get _ _ he]
  have h1 := h e.1
  have h2 := h e.2
  have h3 := h a
  split <;> omega
theorem fold_bd {n : Nat} : ∀ (l : List (Nat × Nat)) (lg : List Int) (B : Int), (∀ e, e ∈ l → e.1 < n) → lg.length = n → (∀ a, 0 ≤ lg.getD a 0 ∧ lg.getD a 0 ≤ B) → ∀ a, 0 ≤ (l.foldl relax lg).getD a 0 ∧ (l.foldl relax lg).getD a 0 ≤ B + l.length
  | [], lg, B, _, _, h => fun a => by simpa using h a
  | e :: l, lg, B, he, hl, h => fun a => by
    have := fold_bd l (relax lg e) (B + 1) (fun x hx => he x (by simp [hx])) (by rw [relax_len]; exact hl) (relax_bd (by rw [hl]; exact he e (by simp)) h) a
    simp only [List.foldl_cons, List.length_cons]
    omega
theorem rounds_bd {n : Nat} {es : List (Nat × Nat)} (he : ∀ e, e ∈ es → e.1 < n) : ∀ (m : Nat) (a : Nat), 0 ≤ (roundsF es m (List.replicate n 0)).getD a 0 ∧ (roundsF es m (List.replicate n 0)).getD a 0 ≤ ((m * es.length : Nat) : Int)
  | 0, a => by
    have : (List.replicate n (0 : Int)).getD a 0 = 0 := by simp only [List.getD_eq_getElem?_getD, List.getElem?_replicate]; split <;> rfl
    rw [roundsF, this]; omega
  | m + 1, a => by
    rw [roundsF_succ]
    have := fold_bd es (roundsF es m (List.replicate n 0)) ((m * es.length : Nat) : Int) he (by rw [rounds_len]; simp) (rounds_bd he m) a
    unfold roundF
    rw [Nat.succ_mul]
    omega
end Ab
set_option maxRecDepth 100000
namespace Ab
open Go Go.Proofs
def boundsP (rs : List (Term × Term)) (most : Int) (ts : List Term) : Int := if sysP rs ≠ 0 then sysP rs else if firstErr ts ≠ 0 then firstErr ts else if most < 1 ∨ 4096 < most then 2 else 0
end Ab
set_option maxRecDepth 10000
namespace Ab
open Go Go.Proofs
theorem walkL_has (xs : List Term) (k : Nat) (h : k < xs.length) (pre : List Int) (y : List Int × Term) (hy : y ∈ walkT xs[k] (pre ++ [(k : Int)])) : y ∈ walkL xs 0 pre := by
  rw [walkL_split xs (k + 1) 0 pre (by omega), walkL_take xs k pre h]
  simp [hy]
theorem walk_in : ∀ (p : List Int) (t x : Term) (pre : List Int), atP t p = some x → (pre ++ p, x) ∈ walkT t pre
  | [], t, x, pre, h => by
    rw [atP] at h
    injection h with h
    subst h
    simp [walkT]
  | i :: p, .mk n v xs, x, pre, h => by
    rw [atP] at h
    split at h
    · rename_i hi
      have ih := walk_in p xs[i.toNat] x (pre ++ [i]) h
      have e : ((i.toNat : Nat) : Int) = i := by omega
      have := walkL_has xs i.toNat hi.2 pre (pre ++ [i] ++ p, x) (by rw [e]; exact ih)
      rw [walkT]
      simp only [Term.mk_args]
      refine List.mem_cons_of_mem _ ?_
      simpa using this
    · cases h
theorem atF_has : ∀ (rs : List (Term × Term)) (k : Nat) (p : List Int) (s : Term) (i : Nat) (h : i < rs.length), (matchP rs[i].1 s []).2 = true → (((k + i : Nat) : Int), p) ∈ atF rs k p s
  | [], _, _, _, i, h, _ => by simp at h
  | r :: rs, k, p, s, 0, _, hm => by
    simp only [List.getElem_cons_zero] at hm
    rw [atF, if_pos hm]; simp
  | r :: rs, k, p, s, i + 1, h, hm => by
    have := atF_has rs (k + 1) p s i (by simpa using h) (by simpa using hm)
    rw [atF, show k + (i + 1) = k + 1 + i by omega]
    exact List.mem_append_right _ this
theorem do_mem {rs : List (Term × Term)} (hr : sysP rs = 0) {t : Term} {s : Int × List Int} (h : (doE rs t s).2 = 0) : s ∈ allS rs t := by
  have hf0 : (findE rs t s).2 = 0 := by
    unfold doE at h
    split at h
    · rename_i h1; exact absurd h h1
    · rename_i h1; simpa using h1
  obtain ⟨x, hf⟩ := find_ok hf0
  have hxv := (sys_B hr).2.2 _ hf.mem
  have hok := hf.ok
  have hnv : (ruleN rs s.1).1.var = false := by
    unfold extraP at hxv
    exact (Bool.or_eq_false_iff.1 hxv).1
  have hx : x.var = false := by
    unfold matchP at hok
    rw [hnv] at hok
    simp only [Bool.false_eq_true, if_false] at hok
    split at hok
    · cases hok
    · rename_i hc
      unfold clash at hc
      cases hv : x.var
      · rfl
      · rw [hv] at hc; simp at hc
  have hw := walk_in s.2 t x [] hf.at'
  rw [List.nil_append] at hw
  unfold allS allI
  refine List.mem_flatMap.2 ⟨_, hw, ?_⟩
  unfold atV
  rw [hx]
  have hg := ruleN_get hf.hi
  rw [hg] at hok
  have := atF_has rs 0 s.2 x s.1.toNat hf.hi hok
  rw [show (((0 + s.1.toNat : Nat)) : Int) = s.1 by have := hf.lo; omega] at this
  simpa using this
structure SubG (g g' : GrP) : Prop where
  ts : ∀ (j : Nat) v, g.ts[j]? = some v → g'.ts[j]? = some v
  es : ∀ e, e ∈ g.es → e ∈ g'.es
  wh : g'.wh = true → g.wh = true
theorem SubG.refl (g : GrP) : SubG g g := ⟨fun _ _ h => h, fun _ h => h, fun h => h⟩
theorem SubG.trans {a b c : GrP} (h : SubG a b) (k : SubG b c) : SubG a c := ⟨fun j v x => k.ts j v (h.ts j v x), fun e x => k.es e (h.es e x), fun x => h.wh (k.wh x)⟩
theorem exStep_sub (most i : Nat) (g : GrP) (s : Int × List Int) (u : Term) : SubG g (exStep most i g s u) := by
  refine ⟨fun j v h => addTs_get h, fun e h => ?_, fun h => ?_⟩
  · unfold exStep; simp only; split
    · exact List.mem_append_left _ h
    · exact h
  · unfold exStep addW at h; simp only at h; split at h
    · cases h
    · exact h
theorem exStep_edge (most i : Nat) (g : GrP) (s : Int × List Int) (u : Term) (h : (exStep most i g s u).wh = true) : ∃ j : Nat, (exStep most i g s u).ts[j]? = some u ∧ (⟨i, j, s⟩ : Edg) ∈ (exStep most i g s u).es := by
  unfold exStep addW at h
  simp only at h
  unfold exStep addTs addR
  by_cases hm : u ∈ g.ts
  · refine ⟨g.ts.idxOf u, ?_, ?_⟩
    · simp only [hm, true_or, if_true]
      rw [List.getElem?_eq_getElem (List.idxOf_lt_length_iff.2 hm)]
      congr 1
      exact List.getElem_idxOf (List.idxOf_lt_length_iff.2 hm)
    · simp [hm]
  · have hl : ¬ most ≤ g.ts.length := fun hl => by rw [if_pos ⟨hm, hl⟩] at h; cases h
    refine ⟨g.ts.length, ?_, ?_⟩
    · simp [hm, hl]
    · simp [hm, hl]
theorem row_full {rs : List (Term × Term)} {most i : Nat} {t : Term} : ∀ (l : List (Int × List Int)) (g : GrP), (exRow rs most i t g l).2 = 0 → SubG g (exRow rs most i t g l).1 ∧ ((exRow rs most i t g l).1.wh = true → ∀ s, s ∈ l → ∃ j : Nat, (exRow rs most i t g l).1.ts[j]? = some (doE rs t s).1 ∧ (⟨i, j, s⟩ : Edg) ∈ (exRow rs most i t g l).1.es)
  | [], g, _ => ⟨SubG.refl g, fun _ s h => by simp at h⟩
  | s :: r, g, h => by
    rw [exRow] at h ⊢
    by_cases hd : (doE rs t s).2 ≠ 0
    · rw [if_pos hd] at h; exact absurd h hd
    · rw [if_neg hd] at h ⊢
      obtain ⟨h1, h2⟩ := row_full r _ h
      refine ⟨(exStep_sub most i g s (doE rs t s).1).trans h1, fun hw x hx => ?_⟩
      rcases List.mem_cons.1 hx with rfl | hx
      · obtain ⟨j, a, b⟩ := exStep_edge most i g x (doE rs t x).1 (h1.wh hw)
        exact ⟨j, h1.ts _ _ a, h1.es _ b⟩
      · exact h2 hw x hx
def Full (rs : List (Term × Term)) (g : GrP) (k : Nat) : Prop := ∀ u, g.ts[k]? = some u → ∀ s, s ∈ allS rs u → ∃ j : Nat, g.ts[j]? = some (doE rs u s).1 ∧ (⟨k, j, s⟩ : Edg) ∈ g.es
theorem expF_full {rs : List (Term × Term)} {most : Nat} : ∀ (n i : Nat) (g : GrP), (expF rs most n i g).2 = 0 → SubG g (expF rs most n i g).1 ∧ ((expF rs most n i g).1.wh = true → (expF rs most n i g).1.ts.length ≤ i + n → ∀ k, i ≤ k → Full rs (expF rs most n i g).1 k)
  | 0, i, g, _ => ⟨SubG.refl g, fun _ hl k hk u hu => by
    rw [expF] at hl hu
    simp only at hl hu
    rw [List.getElem?_eq_none (by omega)] at hu; cases hu⟩
  | n + 1, i, g, h => by
    rw [expF] at h ⊢
    cases hg : g.ts[i]? with
    | none =>
      simp only
      refine ⟨SubG.refl g, fun _ _ k hk u hu => ?_⟩
      have := List.getElem?_eq_none_iff.1 hg
      rw [List.getElem?_eq_none (by omega)] at hu; cases hu
    | some t =>
      rw [hg] at h
      simp only at h ⊢
      by_cases hr : (exRow rs most i t g (allS rs t)).2 ≠ 0
      · rw [if_pos hr] at h; exact absurd h hr
      · rw [if_neg hr] at h ⊢
        obtain ⟨a1, a2⟩ := row_full (allS rs t) g (by simpa using hr)
        obtain ⟨b1, b2⟩ := expF_full n (i + 1) _ h
        refine ⟨a1.trans b1, fun hw hl k hk => ?_⟩
        rcases Nat.lt_or_ge i k with hik | hik
        · exact b2 hw (by omega) k hik
        · have hki : k = i := by omega
          subst hki
          intro u hu s hs
          have hu2 := (a1.trans b1).ts _ _ hg
          rw [hu] at hu2
          injection hu2 with hu2
          subst hu2
          obtain ⟨j, c1, c2⟩ := a2 (b1.wh hw) s hs
          exact ⟨j, b1.ts _ _ c1, b1.es _ c2⟩
theorem explore_full {rs : List (Term × Term)} {t : Term} {most : Nat} (h : (exploreF rs t most).2 = 0) (hl : (exploreF rs t most).1.ts.length ≤ most) (hw : (exploreF rs t most).1.wh = true) : ∀ k, Full rs (exploreF rs t most).1 k := fun k =>
  (expF_full most 0 ⟨[t], [], true⟩ h).2 hw (by rw [Nat.zero_add]; exact hl) k (Nat.zero_le _)
theorem natE_edge {es : List Edg} {k j : Nat} {s : Int × List Int} (h : (⟨k, j, s⟩ : Edg) ∈ es) : j ∈ nxE (natE es) k := by
  rw [nxE_mem]
  unfold natE
  exact List.mem_map.2 ⟨_, h, by simp⟩
theorem whole_run {rs : List (Term × Term)} (hr : sysP rs = 0) {g : GrP} (hf : ∀ k, Full rs g k) : ∀ (l : List (Int × List Int)) (acc : List Term) (t : Term) (j : Nat), g.ts[j]? = some t → (runF rs acc t l).2 = 0 → (∃ j', Pth (nxE (natE g.es)) j j' l.length) ∧ ∀ x, x ∈ (runF rs acc t l).1 → x ∈ acc ∨ x ∈ g.ts
  | [], acc, t, j, _, _ => ⟨⟨j, .nil j⟩, fun x h => .inl h⟩
  | s :: r, acc, t, j, hj, h => by
    rw [runF] at h ⊢
    by_cases hd : (doE rs t s).2 ≠ 0
    · rw [if_pos hd] at h; exact absurd h hd
    · rw [if_neg hd] at h ⊢
      obtain ⟨k, h1, h2⟩ := hf j t hj s (do_mem hr (by simpa using hd))
      obtain ⟨⟨j', p⟩, h3⟩ := whole_run hr hf r (acc ++ [(doE rs t s).1]) (doE rs t s).1 k h1 h
      refine ⟨⟨j', .cons j k j' _ (natE_edge h2) p⟩, fun x hx => ?_⟩
      rcases h3 x hx with h4 | h4
      · rcases List.mem_append.1 h4 with h5 | h5
        · exact .inl h5
        · rw [List.mem_singleton] at h5
          subst h5
          exact .inr (List.mem_of_getElem? h1)
      · exact .inr h4
theorem GX.reach {rs : List (Term × Term)} {most : Nat} {t : Term} {g : GrP} (h : GX rs most t g) : ∀ (n a : Nat), a < n → a < g.ts.length → ∃ m, Pth (nxE (natE g.es)) 0 a m
  | 0, _, h1, _ => by omega
  | n + 1, a, h1, h2 => by
    rcases Nat.eq_zero_or_pos a with rfl | ha
    · exact ⟨0, .nil 0⟩
    · obtain ⟨e, e1, e2, e3, _⟩ := h.pa a ha h2
      have hm := List.mem_of_find?_eq_some e1
      have ht := List.find?_some e1
      simp only [decide_eq_true_eq] at ht
      obtain ⟨m, p⟩ := h.reach n e.fr.toNat (by omega) (by omega)
      refine ⟨m + 1, p.trans (.one ?_)⟩
      rw [nxE_mem]
      unfold natE
      exact List.mem_map.2 ⟨e, hm, by rw [ht]; simp⟩
theorem GX.nat {rs : List (Term × Term)} {most : Nat} {t : Term} {g : GrP} (h : GX rs most t g) : ∀ e, e ∈ natE g.es → e.1 < g.ts.length ∧ e.2 < g.ts.length := fun e he => by
  obtain ⟨x, hx, rfl⟩ := List.mem_map.1 he
  have := h.ed x hx
  simp only; omega
theorem GX.pos {rs : List (Term × Term)} {most : Nat} {t : Term} {g : GrP} (h : GX rs most t g) : 0 < g.ts.length := (List.getElem?_eq_some_iff.1 h.hd).1
theorem long_path {rs : List (Term × Term)} {most : Nat} {t : Term} {g : GrP} (h : GX rs most t g) (hl : (longF g).2 = true) : ∀ j m, Pth (nxE (natE g.es)) 0 j m → (m : Int) ≤ (longF g).1 := fun j m p => by
  have hs := search_ref h.pos h.nat (fun i hi => h.reach (i + 1) i (by omega) hi)
  unfold longF at hl ⊢
  obtain ⟨V, hV⟩ : ∃ V, V = visitF (nxE (natE g.es)) (g.ts.length + 1) (List.replicate g.ts.length 0) 0 := ⟨_, rfl⟩
  rw [← hV] at hs hl ⊢
  cases hw : g.wh
  · rw [hw] at hl; simp at hl
  · rw [hw] at hl
    simp only [if_true] at hl ⊢
    by_cases hv : V.2 = true
    · rw [if_pos hv]
      obtain ⟨h1, h2⟩ := hs.2 hv
      have h3 := h2.2 j m p
      simp only
      rw [h1]
      have h4 : 0 ≤ (longR g.ts.length (natE g.es)).getD 0 0 := by
        have := rounds_bd (n := g.ts.length) (es := natE g.es) (fun e he => (h.nat e he).1) (g.ts.length + 1) 0
        exact this.1
      omega
    · rw [if_neg hv] at hl; simp at hl
end Ab
set_option maxRecDepth 100000
namespace Ab
open Go Go.Proofs
set_option maxHeartbeats 4000000 in
theorem alive5g_ac (H : List AObj) : ACall Tryz.prog 14 [] H (fun r H' => r = .bool true ∧ H' = H) := by
  have hA : encT dxA = .agg [.str [97], .bool false, .sl .none []] := enc_c [97]
  have hx := fun X => exploreX_ac dxR (by rw [dx_B.2.1]; decide) dx_B.1 dxA (by rw [dx_B.2.2]; decide) 10 X
  rw [dx_exE, enc_dxR, hA] at hx
  have hck : ∀ x, x ∈ dxG.ts → checkP x = 0 := by
    intro x hx
    simp only [dxG, List.mem_cons, List.not_mem_nil, or_false] at hx
    rcases hx with rfl | rfl | rfl
    · exact dx_ck.1
    · exact dx_ck.2.1
    · exact dx_ck.2.2
  have hn := fun X => normals_ac dxR (by rw [dx_B.2.1]; decide) dx_B.1 dxA (by rw [dx_B.2.2]; decide) 10 dxG dx_exE dx_sys hck (by decide) (by obtain ⟨n1, n2, n3, n4⟩ := dx_ne; simp [dxG, n4, fun e => n2 e, Ne.symm n2, Ne.symm n3, Ne.symm n1]) X
  rw [dx_norm, show sortTm [dxC] = [dxC] from rfl, enc_dxR, hA] at hn
  have hlg := fun X => longest_ac dxR (by rw [dx_B.2.1]; decide) dx_B.1 dxA (by rw [dx_B.2.2]; decide) 10 dxG dx_exE (by decide) (by decide) (by intro e he; simp only [dxG, List.mem_cons, List.not_mem_nil, or_false] at he; rcases he with rfl | rfl | rfl <;> decide) (by decide) X
  rw [show longF dxG = (0, false) by decide +kernel, enc_dxR, hA] at hlg
  have hbk : ∀ x, x ∈ dxG.ts → x.bulk ≤ 1099511627775 := fun x hx => by have := check_small (hck x hx); omega
  have hs3 := fun X => sameTerms_ac dxG.ts [dxA, dxB, dxC] (by decide) (by decide) hbk hbk X
  rw [show decide (dxG.ts = [dxA, dxB, dxC]) = true from decide_eq_true rfl, show encTs [dxA, dxB, dxC] = [AV.agg [.str [97], .bool false, .sl .none []], .agg [.str [98], .bool false, .sl .none []], .agg [.str [99], .bool false, .sl .none []]] by rw [encTs_cons, encTs_cons, encTs_one]; exact congr (congrArg _ (enc_c [97])) (congr (congrArg _ (enc_c [98])) (congrArg (fun x => [x]) (enc_c [99])))] at hs3
  have hs1 : ∀ X, ACall Tryz.prog 16 [.sl .none [encT dxC], .sl .none [.agg [.str [99], .bool false, .sl .none []]]] X (fun r H' => r = .bool true ∧ H' = X) := fun X => by
    have hc : ∀ x, x ∈ [dxC] → x.bulk ≤ 1099511627775 := fun x hx => hbk x (by simp at hx; rw [hx]; simp [dxG])
    have h := sameTerms_ac [dxC] [dxC] (by decide) (by decide) hc hc X
    rw [encTs_one, show decide ([dxC] = [dxC]) = true from decide_eq_true rfl] at h
    rw [← enc_c [99]]
    exact h
  have hes : dxG.es.length = 3 := rfl
  have hwh : dxG.wh = true := rfl
  refine ACall_V (H.length) 82 [.tmp 0] Tryz.func14 rfl rfl rfl ?_
  simp only [push_cast, Nat.reduceAdd, Nat.reduceSub, Nat.reduceMul, Nat.reduceLT, Nat.reduceLeDiff, Nat.reduceEqDiff, Int.reduceToNat, ↓reduceIte]
  refine (constant_ac _ _).to ?_
  rw [enc_c]
  simp only [push_cast, Nat.reduceAdd, Nat.reduceSub, Nat.reduceMul, Nat.reduceLT, Nat.reduceLeDiff, Nat.reduceEqDiff, Int.reduceToNat, ↓reduceIte]
  refine (constant_ac _ _).to ?_
  rw [enc_c]
  simp only [push_cast, Nat.reduceAdd, Nat.reduceSub, Nat.reduceMul, Nat.reduceLT, Nat.reduceLeDiff, Nat.reduceEqDiff, Int.reduceToNat, ↓reduceIte]
  refine (constant_ac _ _).to ?_
  rw [enc_c]
  simp only [push_cast, Nat.reduceAdd, Nat.reduceSub, Nat.reduceMul, Nat.reduceLT, Nat.reduceLeDiff, Nat.reduceEqDiff, Int.reduceToNat, ↓reduceIte]
  refine (constant_ac _ _).to ?_
  rw [enc_c]
  simp only [push_cast, Nat.reduceAdd, Nat.reduceSub, Nat.reduceMul, Nat.reduceLT, Nat.reduceLeDiff, Nat.reduceEqDiff, Int.reduceToNat, ↓reduceIte]
  refine (constant_ac _ _).to ?_
  rw [enc_c]
  simp only [push_cast, Nat.reduceAdd, Nat.reduceSub, Nat.reduceMul, Nat.reduceLT, Nat.reduceLeDiff, Nat.reduceEqDiff, Int.reduceToNat, ↓reduceIte]
  refine (constant_ac _ _).to ?_
  rw [enc_c]
  simp only [push_cast, Nat.reduceAdd, Nat.reduceSub, Nat.reduceMul, Nat.reduceLT, Nat.reduceLeDiff, Nat.reduceEqDiff, Int.reduceToNat, ↓reduceIte]
  refine (constant_ac _ _).to ?_
  rw [enc_c]
  simp only [push_cast, Nat.reduceAdd, Nat.reduceSub, Nat.reduceMul, Nat.reduceLT, Nat.reduceLeDiff, Nat.reduceEqDiff, Int.reduceToNat, ↓reduceIte]
  refine (hx _).to ?_
  simp only [push_cast, Nat.reduceAdd, Nat.reduceSub, Nat.reduceMul, Nat.reduceLT, Nat.reduceLeDiff, Nat.reduceEqDiff, Int.reduceToNat, ↓reduceIte, encGE]
  refine (constant_ac _ _).to ?_
  rw [enc_c]
  simp only [push_cast, Nat.reduceAdd, Nat.reduceSub, Nat.reduceMul, Nat.reduceLT, Nat.reduceLeDiff, Nat.reduceEqDiff, Int.reduceToNat, ↓reduceIte]
  refine (hn _).to ?_
  simp only [push_cast, Nat.reduceAdd, Nat.reduceSub, Nat.reduceMul, Nat.reduceLT, Nat.reduceLeDiff, Nat.reduceEqDiff, Int.reduceToNat, ↓reduceIte]
  refine (constant_ac _ _).to ?_
  rw [enc_c]
  simp only [push_cast, Nat.reduceAdd, Nat.reduceSub, Nat.reduceMul, Nat.reduceLT, Nat.reduceLeDiff, Nat.reduceEqDiff, Int.reduceToNat, ↓reduceIte]
  refine (hlg _).to ?_
  simp only [push_cast, Nat.reduceAdd, Nat.reduceSub, Nat.reduceMul, Nat.reduceLT, Nat.reduceLeDiff, Nat.reduceEqDiff, Int.reduceToNat, ↓reduceIte]
  apply AW_drawE [some 40, some 41, some 42, some 43, some 44, some 45, some 46, some 47, some 48, some 49, some 50, some 51, some 52, some 53, some 54, some 55, some 56, some 57, some 58, some 59, some 60, some 61, some 62, some 63, some 64, some 65, some 66, some 67, some 68, some 69, some 70, some 71, some 72, some 73, some 74, some 75, some 76, some 77, some 78, some 79, some 80, some 81, some 0] [([], _)] [none, none, none, none, none, none, none, none, none, none, none, none, none, none, none, none, none, none, none, none, none, none, none, none, none, none, none, none, none, none, none, none, none, none, none, none, none, none, none, none, none, none, none] 0 [(0, [], [3]), (1, [], [40]), (2, [], [41]), (3, [], [2, 39]), (4, [], [42, 0]), (5, [], [42]), (6, [], [42]), (7, [], [42]), (8, [], [42, 2, 0, 0]), (9, [], [42, 1, 3]), (10, [], [42, 6]), (11, [], [50]), (12, [], [2, 48]), (13, [], [51, 0]), (14, [], [51, 1]), (15, [], [51, 2]), (16, [], [51, 3]), (17, [], [56]), (18, [], [2, 54]), (19, [], [57, 0]), (20, [], [57, 1]), (21, [], [60]), (22, [], [6, 54]), (23, [], [61, 0]), (24, [], [61, 1]), (25, [], [64]), (26, [], [5, 59]), (27, [], [65, 0]), (28, [], [67]), (29, [], [4, 63]), (30, [], [68]), (31, [], [68, 1]), (32, [], [68, 0, 1]), (33, [], [68, 3]), (34, [], [73]), (35, [], [9, 64]), (36, [], [74, 0]), (37, [], [74, 1]), (38, [], [77]), (39, [], [8, 69]), (40, [], [78, 0]), (41, [], [78, 1]), (42, [], [81])] [_, _, _, _, _, _, _, _, _, _, _, _, _, _, _, _, _, _, _, _, _, _, _, _, _, _, _, _, _, _, _, _, _, _, _, _, _, _, _, _, _, _, _]
  case' hm => exact dr
  case' hn => rfl
  case' hok => rfl
  case' hlen => rfl
  case' hd => rfl
  case' h0 => rfl
  case' hstep =>
   simp only [DAllG, push_cast, Option.isSome_some, Option.isSome_none]
   repeat' apply And.intro
   all_goals (apply DOne_V; simp only [push_cast, Nat.reduceAdd, Nat.reduceSub, Nat.reduceMul, Nat.reduceLT, Nat.reduceLeDiff, Nat.reduceEqDiff, Int.reduceToNat, ↓reduceIte, hes, hwh, decide_true, Bool.not_false, Bool.not_true] <;> first | exact rfl | omega | exact ⟨rfl, rfl⟩ | exact trivial | exact ⟨by omega, rfl⟩ | exact ⟨by omega, by omega, rfl⟩ | exact ⟨by omega, rfl, rfl⟩ | exact ⟨by omega, by omega, rfl, rfl⟩ | (refine (constant_ac _ _).to ?_; rw [enc_c]; exact ⟨rfl, rfl⟩) | (refine (hs3 _).to ?_; exact ⟨rfl, rfl⟩) | (refine (hs1 _).to ?_; exact ⟨rfl, rfl⟩) | rfl | exact decide_eq_true rfl | trace_state)
  case' hQ => skip
  simp only [push_cast, Nat.reduceAdd, Nat.reduceSub, Nat.reduceMul, Nat.reduceLT, Nat.reduceLeDiff, Nat.reduceEqDiff, Int.reduceToNat, ↓reduceIte]
end Ab
set_option maxRecDepth 100000
namespace Ab
open Go Go.Proofs
theorem firstErr_one (t : Term) : firstErr [t] = checkP t := by
  simp only [firstErr]
  split <;> simp_all
theorem exploreE_bad {rs : List (Term × Term)} {t : Term} {most : Int} (h : boundsP rs most [t] ≠ 0) : exploreE rs t most = (zeroG, boundsP rs most [t]) := by
  unfold boundsP at h ⊢
  unfold exploreE bothP
  rw [firstErr_one] at h ⊢
  by_cases h1 : sysP rs ≠ 0
  · rw [if_pos h1]; simp [h1]
  · have h1' : sysP rs = 0 := by simpa using h1
    rw [if_neg h1] at h ⊢
    by_cases h2 : checkP t ≠ 0
    · rw [if_pos h2]; simp [h1', h2]
    · have h2' : checkP t = 0 := by simpa using h2
      rw [if_neg h2] at h ⊢
      by_cases h3 : most < 1 ∨ 4096 < most
      · rw [if_pos h3]; simp [h1', h2', h3]
      · rw [if_neg h3] at h; exact absurd rfl h
theorem exploreE_ok {rs : List (Term × Term)} {t : Term} {most : Int} (h : boundsP rs most [t] = 0) : sysP rs = 0 ∧ checkP t = 0 ∧ 1 ≤ most ∧ most ≤ 4096 ∧ exploreE rs t most = exploreF rs t most.toNat := by
  unfold boundsP at h
  rw [firstErr_one] at h
  by_cases h1 : sysP rs ≠ 0
  · rw [if_pos h1] at h; exact absurd h h1
  · have h1' : sysP rs = 0 := by simpa using h1
    rw [if_neg h1] at h
    by_cases h2 : checkP t ≠ 0
    · rw [if_pos h2] at h; exact absurd h h2
    · have h2' : checkP t = 0 := by simpa using h2
      rw [if_neg h2] at h
      by_cases h3 : most < 1 ∨ 4096 < most
      · rw [if_pos h3] at h; simp at h
      · refine ⟨h1', h2', by omega, by omega, ?_⟩
        unfold exploreE bothP
        simp [h1', h2', h3]
end Ab
set_option maxRecDepth 100000
namespace Ab
open Go Go.Proofs
theorem run_lenW {rs : List (Term × Term)} : ∀ (l : List (Int × List Int)) (acc : List Term) (t : Term), (runF rs acc t l).1.length ≤ acc.length + l.length
  | [], acc, t => by simp [runF]
  | s :: l, acc, t => by
    rw [runF]
    split
    · simp
    · have := run_lenW (rs := rs) l (acc ++ [(doE rs t s).1]) (doE rs t s).1
      simp only [List.length_append, List.length_cons, List.length_nil] at this ⊢
      omega
theorem termsE_run {rs : List (Term × Term)} {c : ChP} (h : (termsE rs c).2 = 0) : c.2.length ≤ 4096 ∧ checkP c.1 = 0 ∧ termsE rs c = runF rs [c.1] c.1 c.2 := by
  unfold termsE at h ⊢
  by_cases h1 : 4096 < c.2.length
  · rw [if_pos h1] at h; simp at h
  · rw [if_neg h1] at h ⊢
    by_cases h2 : checkP c.1 ≠ 0
    · rw [if_pos h2] at h; exact absurd h h2
    · rw [if_neg h2] at h ⊢
      exact ⟨by omega, by simpa using h2, rfl⟩
theorem exploreE_zero {rs : List (Term × Term)} {t : Term} {most : Int} (h : (exploreE rs t most).2 = 0) : boundsP rs most [t] = 0 := by
  by_cases h0 : boundsP rs most [t] ≠ 0
  · rw [exploreE_bad h0] at h; exact absurd h h0
  · simpa using h0
set_option maxHeartbeats 8000000 in
theorem wholeLaw_ac (rs : List (Term × Term)) (hlen : rs.length < 1099511627776) (hru : RuB rs) (c : ChP) (hc : ChB c) (hc1 : c.1.bulk ≤ 1099511627770) (most : Int) (H : List AObj) :
    ACall Tryz.prog 7 [.sl .none (encL encRu rs), encCh c, .int .i64 most] H (fun r H' => r = .bool true ∧ H' = H) := by
  have hb : BndR rs := fun r hr => by have := hru r hr; omega
  have hex := fun X => exploreX_ac rs hlen hb c.1 (by omega) most X
  have htm := fun X => termsR_ac rs hru c hc.1 hc.2.1 hc.2.2 X
  obtain ⟨g, hgd⟩ : ∃ g, g = (exploreE rs c.1 most).1 := ⟨_, rfl⟩
  obtain ⟨e, hed⟩ : ∃ e, e = (exploreE rs c.1 most).2 := ⟨_, rfl⟩
  obtain ⟨T, hTd⟩ : ∃ T, T = (termsE rs c).1 := ⟨_, rfl⟩
  obtain ⟨f, hfd⟩ : ∃ f, f = (termsE rs c).2 := ⟨_, rfl⟩
  have hE : exploreE rs c.1 most = (g, e) := by rw [hgd, hed]
  have hT : termsE rs c = (T, f) := by rw [hTd, hfd]
  rw [hE] at hex
  rw [hT] at htm
  by_cases h0 : e ≠ 0
  · have hd : decide (e = 0) = false := by simpa using h0
    refine ACall_V (H.length) 76 [.tmp 6] Tryz.func7 rfl rfl rfl ?_
    simp only [push_cast, Nat.reduceAdd, Nat.reduceSub, Nat.reduceMul, Nat.reduceLT, Nat.reduceLeDiff, Nat.reduceEqDiff, Int.reduceToNat, ↓reduceIte]
    refine (hex _).to ?_
    simp only [push_cast, Nat.reduceAdd, Nat.reduceSub, Nat.reduceMul, Nat.reduceLT, Nat.reduceLeDiff, Nat.reduceEqDiff, Int.reduceToNat, ↓reduceIte, encGE]
    refine (htm _).to ?_
    simp only [push_cast, Nat.reduceAdd, Nat.reduceSub, Nat.reduceMul, Nat.reduceLT, Nat.reduceLeDiff, Nat.reduceEqDiff, Int.reduceToNat, ↓reduceIte, encTE, hd, Bool.not_false]
    refine (alive5g_ac _).to ?_
    simp only [push_cast, Nat.reduceAdd, Nat.reduceSub, Nat.reduceMul, Nat.reduceLT, Nat.reduceLeDiff, Nat.reduceEqDiff, Int.reduceToNat, ↓reduceIte]
  · have h0' : e = 0 := by simpa using h0
    subst h0'
    by_cases h1 : f ≠ 0
    · have hd : decide (f = 0) = false := by simpa using h1
      refine ACall_V (H.length) 76 [.tmp 6] Tryz.func7 rfl rfl rfl ?_
      simp only [push_cast, Nat.reduceAdd, Nat.reduceSub, Nat.reduceMul, Nat.reduceLT, Nat.reduceLeDiff, Nat.reduceEqDiff, Int.reduceToNat, ↓reduceIte]
      refine (hex _).to ?_
      simp only [push_cast, Nat.reduceAdd, Nat.reduceSub, Nat.reduceMul, Nat.reduceLT, Nat.reduceLeDiff, Nat.reduceEqDiff, Int.reduceToNat, ↓reduceIte, encGE]
      refine (htm _).to ?_
      simp only [push_cast, Nat.reduceAdd, Nat.reduceSub, Nat.reduceMul, Nat.reduceLT, Nat.reduceLeDiff, Nat.reduceEqDiff, Int.reduceToNat, ↓reduceIte, encTE, hd, Bool.not_false]
      refine (alive5g_ac _).to ?_
      simp only [push_cast, Nat.reduceAdd, Nat.reduceSub, Nat.reduceMul, Nat.reduceLT, Nat.reduceLeDiff, Nat.reduceEqDiff, Int.reduceToNat, ↓reduceIte]
    · have h1' : f = 0 := by simpa using h1
      subst h1'
      cases hw : g.wh
      · refine ACall_V (H.length) 76 [.tmp 6] Tryz.func7 rfl rfl rfl ?_
        simp only [push_cast, Nat.reduceAdd, Nat.reduceSub, Nat.reduceMul, Nat.reduceLT, Nat.reduceLeDiff, Nat.reduceEqDiff, Int.reduceToNat, ↓reduceIte]
        refine (hex _).to ?_
        simp only [push_cast, Nat.reduceAdd, Nat.reduceSub, Nat.reduceMul, Nat.reduceLT, Nat.reduceLeDiff, Nat.reduceEqDiff, Int.reduceToNat, ↓reduceIte, encGE, hw]
        refine (htm _).to ?_
        simp only [push_cast, Nat.reduceAdd, Nat.reduceSub, Nat.reduceMul, Nat.reduceLT, Nat.reduceLeDiff, Nat.reduceEqDiff, Int.reduceToNat, ↓reduceIte, encTE]
        refine (alive5g_ac _).to ?_
        simp only [push_cast, Nat.reduceAdd, Nat.reduceSub, Nat.reduceMul, Nat.reduceLT, Nat.reduceLeDiff, Nat.reduceEqDiff, Int.reduceToNat, ↓reduceIte]
      · obtain ⟨hr, hck, hm1, hm2, hE2⟩ := exploreE_ok (exploreE_zero (rs := rs) (t := c.1) (most := most) (by rw [hE]))
        obtain ⟨k, hk⟩ : ∃ k : Nat, most = (k : Nat) := ⟨most.toNat, by omega⟩
        subst hk
        rw [Int.toNat_natCast] at hE2
        have hEF : exploreF rs c.1 k = (g, 0) := by rw [← hE2, hE]
        obtain ⟨hgx, hel⟩ := explore_spec hr hck (by omega) (by omega) (show (exploreF rs c.1 k).2 = 0 by rw [hEF])
        have hfull := explore_full (rs := rs) (t := c.1) (most := k) (by rw [hEF]) hgx.len (by rw [hEF]; exact hw)
        rw [hEF] at hgx hel hfull
        have hgx : GX rs k c.1 g := hgx
        have hel : g.es.length < 1099511627776 := hel
        have hfull : ∀ k, Full rs g k := hfull
        obtain ⟨t1, t2, t3⟩ := termsE_run (rs := rs) (c := c) (by rw [hT])
        rw [hT] at t3
        obtain ⟨⟨j', hp⟩, hmem⟩ := whole_run hr hfull c.2 [c.1] c.1 0 hgx.hd (by rw [← t3])
        rw [← t3] at hmem
        have hgl := hgx.len
        have hgp := hgx.pos
        have hgc := fun x hx => check_small (hgx.ck x hx)
        have hes : ∀ e, e ∈ g.es → 0 ≤ e.to ∧ e.to < g.ts.length ∧ 0 ≤ e.fr ∧ e.fr < g.ts.length := fun e he => by have := hgx.ed e he; omega
        have hall : ∀ x, x ∈ T → x ∈ g.ts := fun x hx => by
          rcases hmem x hx with h | h
          · rw [List.mem_singleton] at h
            subst h
            exact List.mem_of_getElem? hgx.hd
          · exact h
        have hTl : T.length ≤ 1 + c.2.length := by
          have := run_lenW (rs := rs) c.2 [c.1] c.1
          rw [← t3] at this
          simpa using this
        have hlo := fun X => longest_ac rs hlen hb c.1 (by omega) k g hE hgp (by omega) hes hel X
        have hlp := fun h => long_path hgx h j' _ hp
        obtain ⟨L, hL⟩ : ∃ L, L = longF g := ⟨_, rfl⟩
        rw [← hL] at hlo hlp
        refine ACall_V (H.length) 76 [.tmp 6] Tryz.func7 rfl rfl rfl ?_
        simp only [push_cast, Nat.reduceAdd, Nat.reduceSub, Nat.reduceMul, Nat.reduceLT, Nat.reduceLeDiff, Nat.reduceEqDiff, Int.reduceToNat, ↓reduceIte]
        refine (hex _).to ?_
        simp only [push_cast, Nat.reduceAdd, Nat.reduceSub, Nat.reduceMul, Nat.reduceLT, Nat.reduceLeDiff, Nat.reduceEqDiff, Int.reduceToNat, ↓reduceIte, encGE, hw]
        refine (htm _).to ?_
        simp only [push_cast, Nat.reduceAdd, Nat.reduceSub, Nat.reduceMul, Nat.reduceLT, Nat.reduceLeDiff, Nat.reduceEqDiff, Int.reduceToNat, ↓reduceIte, encTE]
        refine AW_loopW (maskG 79 [0, 1, 1, 2, 34, 0, 0]) (fun (i : Nat) => [(44, .int .i64 i)]) (fun _ => H ++ [.cells [.str c.1.name, .bool c.1.var, .sl .none (encTs c.1.args), .sl .none (encL encSt c.2)], .cells [.sl .none (encTs g.ts), .sl .none (encL encE g.es), .bool true]]) (fun i => i ≤ T.length) (fun i => T.length - i) 0 (Nat.zero_le _) (by simp only [push_cast, Nat.reduceAdd, Nat.reduceSub, Nat.reduceMul, Nat.reduceLT, Nat.reduceLeDiff, Nat.reduceEqDiff, Int.reduceToNat, ↓reduceIte]; first | done | trace_state) (fun i hi => ?_)
        simp only [push_cast, Nat.reduceAdd, Nat.reduceSub, Nat.reduceMul, Nat.reduceLT, Nat.reduceLeDiff, Nat.reduceEqDiff, Int.reduceToNat, ↓reduceIte]
        refine cI (fun h => ?_) (fun h => ?_)
        · have hil : i < T.length := by omega
          have hxm := hall _ (List.getElem_mem hil)
          have hxs := hgc _ hxm
          refine ⟨hil, ?_⟩
          refine (findR_ac g.ts (T[i]'hil) (by omega) (fun x hx => by have := hgc x hx; omega) (by omega) _).to ?_
          have hfi : findI g.ts (T[i]'hil) = ((g.ts.idxOf (T[i]'hil) : Nat) : Int) := by unfold findI; rw [if_pos hxm]
          rw [hfi]
          simp only [push_cast, Nat.reduceAdd, Nat.reduceSub, Nat.reduceMul, Nat.reduceLT, Nat.reduceLeDiff, Nat.reduceEqDiff, Int.reduceToNat, ↓reduceIte]
          refine cI (fun h => absurd h (by omega)) (fun _ => ?_)
          repeat' first | refine ⟨by omega, ?_⟩ | refine cI (fun _ => ?_) (fun _ => ?_)
          exact loopW_n (i + 1) (by omega) (by omega) (by simp only [push_cast, Nat.reduceAdd, Nat.reduceSub, Nat.reduceMul, Nat.reduceLT, Nat.reduceLeDiff, Nat.reduceEqDiff, Int.reduceToNat, ↓reduceIte])
        · refine (hlo _).to ?_
          cases hb2 : L.2
          · simp only [push_cast, Nat.reduceAdd, Nat.reduceSub, Nat.reduceMul, Nat.reduceLT, Nat.reduceLeDiff, Nat.reduceEqDiff, Int.reduceToNat, ↓reduceIte]
            refine (alive5g_ac _).to ?_
            simp only [push_cast, Nat.reduceAdd, Nat.reduceSub, Nat.reduceMul, Nat.reduceLT, Nat.reduceLeDiff, Nat.reduceEqDiff, Int.reduceToNat, ↓reduceIte]
          · have hle := hlp hb2
            have hd : decide ((c.2.length : Int) ≤ L.1) = true := by simpa using hle
            simp only [push_cast, Nat.reduceAdd, Nat.reduceSub, Nat.reduceMul, Nat.reduceLT, Nat.reduceLeDiff, Nat.reduceEqDiff, Int.reduceToNat, ↓reduceIte, hd]
            refine (alive5g_ac _).to ?_
            simp only [push_cast, Nat.reduceAdd, Nat.reduceSub, Nat.reduceMul, Nat.reduceLT, Nat.reduceLeDiff, Nat.reduceEqDiff, Int.reduceToNat, ↓reduceIte]
end Ab
set_option maxRecDepth 100000
namespace Go.Proofs.YtpgjcbeoipldgaaGreat
open Go Ab
namespace dwh
theorem own : ownKnob Tryz.prog.godebug = none := by kernel_rfl
theorem laid : laidOutB Tryz.prog = true := by kernel_rfl
theorem readable : ∀ t, t ∈ Tryz.f7.params.toList → Tryz.prog.readableRec t = true ∧ t < Tryz.prog.types.size := by
  rw [Tryz.params7]; intro t ht
  simp only [List.mem_cons, List.not_mem_nil, or_false] at ht
  rcases ht with rfl | rfl | rfl <;> exact ⟨by kernel_rfl, of_decide_eq_true (by kernel_rfl)⟩
theorem closed : closedK Tryz.prog [22, 94, 25, 9, 4, 23, 28, 26, 86, 3, 48] = true := by kernel_rfl
theorem contract (H : Type) (enc : TypeId × Value → H) (W : World) (base : Nat) (args : Array Value) (ds gs : List (DataW H)) (before : List MemPlace)
    (hval : ∀ (j : Nat) t v, Tryz.f7.params[j]? = some t → args[j]? = some v → Value.okWide Tryz.prog W .any base t v)
    (hW : DataW.Whole enc Tryz.prog Tryz.f7.params.toList Rows.deriveWholeSpec.vars false W args.toList ds gs before) (hk : Rows.uptoSmall H (ds ++ gs) = true) :
    Calls Tryz.prog 7 args W fun e W' => ∃ v, e = .returned v ∧ Rows.deriveWholeSpec.post enc Tryz.prog Tryz.f7 false true false false W args v W' := by
  have hW' := hW
  obtain ⟨p, q, hA0, hV, rfl, hfz, hnd⟩ := hW
  have hA : DataW.TrodAll enc Tryz.prog W 0 (fun _ => true) true Tryz.f7.params.toList args.toList ds p := hA0
  rw [Tryz.params7] at hA hval
  obtain ⟨v0, vs0, d0, ds0, p0, q0, hargs, rfl, rfl, h0, r0⟩ := ChangeShapes.trodAll_cons hA
  obtain ⟨v1, vs1, d1, ds1, p1, q1, rfl, rfl, rfl, h1, r1⟩ := ChangeShapes.trodAll_cons r0
  obtain ⟨v2, vs2, d2, ds2, p2, q2, rfl, rfl, rfl, h2, r2⟩ := ChangeShapes.trodAll_cons r1
  obtain ⟨rfl, rfl, rfl⟩ := ChangeShapes.trodAll_nil r2
  obtain rfl : args = #[v0, v1, v2] := by cases args; simp_all
  have hg : gs = [] := by cases gs with | nil => rfl | cons _ _ => exact hV.elim
  subst hg
  have hb : Rows.uptoBulk d0 + Rows.uptoBulk d1 + Rows.uptoBulk d2 ≤ 1048576 := by
    have := of_decide_eq_true hk
    simp only [List.cons_append, List.nil_append, List.append_nil, Rows.uptoBulkAll] at this
    omega
  obtain ⟨n0, a0, e0, x0⟩ := arg_slice closed (by decide) Tryz.underlying22 (hval 0 _ v0 rfl rfl) h0
  obtain ⟨n1, a1, e1, x1⟩ := arg_struct closed (by decide) Tryz.underlying28 (hval 1 _ v1 rfl rfl) h1
  obtain ⟨n2, a2, e2, x2⟩ := arg_scalar closed (by decide) Tryz.underlying3 (hval 2 _ v2 rfl rfl) h2
  obtain ⟨rs, f0, b0, c0⟩ := rules_form n0 d0 [a0] e0
  obtain ⟨c, f1, b1, l1, c1⟩ := chain_form n1 d1 a1 e1
  obtain ⟨mo, rfl, f2⟩ := toAV_int kdInt e2
  try simp only [List.cons.injEq, and_true] at f0
  try simp only [List.cons.injEq, and_true] at f2
  rw [f0] at x0; rw [f1] at x1; rw [f2] at x2
  have hc := law_calls (args := #[v0, v1, v2]) (avs := [.sl .none (encL encRu rs), encCh c, .int .i64 mo]) (W := W) (wholeLaw_ac rs (by omega) (fun r hr => by have := c0 r hr; omega) c ⟨by omega, by omega, fun x hx => by have := c1 x hx; omega⟩ (by omega) mo []) (fun h => by simp [tabOn] at h) rfl (fun i hi hi' => by
    match i, hi with
    | 0, _ => exact x0
    | 1, _ => exact x1
    | 2, _ => exact x2)
  refine hc.mono fun e W' ⟨he, hbl⟩ => ?_
  subst he
  exact ⟨_, rfl, post_law rfl ⟨rfl, rfl, rfl⟩ hW' hbl rfl Tryz.underlying4 laid readable⟩
set_option maxRecDepth 100000 in
theorem lifted (os : Os) (started : os.Started) (H : Type) (enc : TypeId × Value → H) (F : Stop.Interp) :
    ReturnsInHanded {} Tryz.checked os 7 .any ((Rows.OpenSpec.upto Rows.deriveWholeSpec).pre6 enc Tryz.prog Tryz.f7 Rows.deriveWholeUptoRow.domain false) (((Rows.OpenSpec.upto Rows.deriveWholeSpec).at F).post enc Tryz.prog Tryz.f7 false true false false) := by
  refine returnsInHanded_of_cond (C := Tryz.checked) (s := Rows.OpenSpec.upto Rows.deriveWholeSpec) (k := Rows.uptoSmall) rfl own started (by kernel_rfl) Tryz.func7
    (OpenSpec.witness (enc := enc) (C := Tryz.checked) (s := Rows.OpenSpec.upto Rows.deriveWholeSpec) (k := Rows.uptoSmall) rfl false
      ⟨#[], #[.slice none 0 0, .agg #[.string ⟨#[]⟩, .bool false, .slice none 0 0, .slice none 0 0], .int .i64 0], []⟩ 8 (by kernel_rfl) (by kernel_rfl) (by kernel_rfl)
      (x := ([.nil, .agg [.agg [.lit (.string []), .lit (.bool false), .nil], .nil], .lit (.int .i64 0)], [], [])) (by kernel_rfl) rfl (by kernel_rfl)) ?_
  intro W base args ds gs before hval hW _ hk _
  exact contract H enc W base args ds gs before hval hW hk
theorem over : Rows.deriveWholeUptoRow.holds Tryz.pinned (Rows.OpenSpec.upto Rows.deriveWholeSpec) :=
  OpenClaim.holds_of_cond 7 Tryz.f7 rfl rfl rfl rfl rfl rfl rfl ⟨rfl, rfl, rfl, rfl, rfl⟩ rfl rfl rfl rfl rfl (by kernel_rfl) Tryz.func7 (by kernel_rfl)
    (of_decide_eq_true (by kernel_rfl)) (by unfold Func.isWrapper; first | (rw [if_pos (by decide +kernel)]; kernel_rfl) | (rw [if_neg (by decide +kernel)]; exact ⟨rfl, rfl⟩))
    (fun os started H enc _ F => lifted os started H enc F)
end dwh
theorem deriveWhole_upto : Rows.DeriveWholeUptoSaid := dwh.over
end Go.Proofs.YtpgjcbeoipldgaaGreat
