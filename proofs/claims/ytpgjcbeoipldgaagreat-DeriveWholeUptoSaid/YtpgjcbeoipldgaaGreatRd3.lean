/- Part 3 of 5 of a proof. The law DeriveWhole of chapter 05 returns true at every input up to the bound: a whole graph holds every derivation, and none is longer than the longest one. -/
import Derived.Test.YtpgjcbeoipldgaaGreatRd2
import Derived.Sort.Row
import Derived.Sort.Grow
import Derived.Test.YtpgjcbeoipldgaaGreatProg
import Derived.KernelRfl
import Derived.Shelf.Sort.Plain
import Derived.Shelf.Slices.In.SortNone
import Derived.Lib.LaidTab
import Derived.MakeChecks
import Derived.Stop.LaidErr
import Derived.Test.YtpgjcbeoipldgaaGreatRows
import Derived.Lib.ItoaNum
import Derived.Shelf.Spec.SlicesInsertGrow
set_option linter.unusedVariables false
set_option linter.unusedSimpArgs false
namespace Ab
open Go
theorem step_more {C : Ctx} (hg : Good C) (w' : World) (os : Array Obj) (hw : w'.heap = C.w.heap ++ os) (so : SameOut C.w w') : Good { C with w := w' } ∧ Ext C { C with w := w' } := by
  have hheap : ∀ b, b < C.w.heap.size → w'.heap[b]? = C.w.heap[b]? := fun b hb => by rw [hw, Array.getElem?_append_left hb]
  have hsz : C.w.heap.size ≤ w'.heap.size := by rw [hw]; simp
  have he : Ext C { C with w := w' } := by
    refine ⟨so.os, so.tape, so.output, so.drawn, hsz, fun _ => Nat.le_refl _, fun b q hq => cell_eq (hheap b (hg.S_lt hq)), fun b hb _ => hheap b hb,
      fun k o h hd => .inr ⟨k, o, h, hd, rfl⟩, fun k o h => ⟨o, h, fun _ => rfl⟩, fun _ _ _ _ _ => rfl, ?_, ?_, ?_⟩
    · intro k e sz len h; exact ⟨len, h, Nat.le_refl _, fun _ => ⟨rfl, fun cur hc => ⟨cur, (hheap _ (hg.lt k _ h (by simp [AObj.kind]))).trans hc, rfl⟩⟩⟩
    · intro k ver es h; exact ⟨ver, es, h, Nat.le_refl _, fun _ => ⟨rfl, hheap _ (hg.lt k _ h (by simp [AObj.kind]))⟩⟩
    · intro k e sz vs h; exact ⟨vs, h, Nat.le_refl _, fun _ => ⟨rfl, fun cur hc => ⟨cur, (hheap _ (hg.lt k _ h (by simp [AObj.kind]))).trans hc, rfl⟩⟩⟩
  refine ⟨⟨fun k o h => ?_, fun k o h hd => Nat.lt_of_lt_of_le (hg.lt k o h hd) hsz, hg.inj, fun b hb => hg.fresh b (Nat.le_trans hsz hb), hg.tab.ext he⟩, he⟩
  by_cases hd : o.kind = 6
  · cases o <;> first | trivial | (simp [AObj.kind] at hd)
  · exact ORel.ext he rfl (hheap _ (hg.lt k o h hd)) rfl (hg.obj k o h)
theorem step_gr_move {C : Ctx} (hg : Good C) (k : Nat) {e : TypeId} {sz : Nat} {vs vs' : List AV} {cur' : Array Value} {w' : World} (hk : C.H[k]? = some (.grow e sz vs))
    (hw : w'.heap = C.w.heap.push (.cells cur' e (0, 0))) (so : SameOut C.w w') (hlt : vs.length < vs'.length)
    {C' : Ctx} (hC : C' = ⟨C.S, fun j => if j = k then C.w.heap.size else C.μ j, C.H.set k (.grow e sz vs'), w'⟩) (hor : Ext C C' → ORel C' k (.grow e sz vs')) : Good C' ∧ Ext C C' := by
  subst hC
  have hkl : k < C.H.length := (List.getElem?_eq_some_iff.1 hk).1
  have hheap : ∀ b, b < C.w.heap.size → w'.heap[b]? = C.w.heap[b]? := fun b hb => by rw [hw]; exact get_push _ _ _ hb
  have hset : ∀ j, j ≠ k → (C.H.set k (.grow e sz vs'))[j]? = C.H[j]? := fun j hj => by rw [List.getElem?_set, if_neg (Ne.symm hj)]
  have hsetk : (C.H.set k (.grow e sz vs'))[k]? = some (.grow e sz vs') := by rw [List.getElem?_set, if_pos rfl]; simp [hkl]
  have hmu : ∀ j, j ≠ k → (if j = k then C.w.heap.size else C.μ j) = C.μ j := fun j h => if_neg h
  have he : Ext C ⟨C.S, fun j => if j = k then C.w.heap.size else C.μ j, C.H.set k (.grow e sz vs'), w'⟩ := by
    refine ⟨so.os, so.tape, so.output, so.drawn, by show _ ≤ w'.heap.size; rw [hw]; simp, fun _ => Nat.le_refl _, ?_, ?_, ?_, ?_, ?_, ?_, ?_, ?_⟩
    · intro b o ho; exact cell_eq (hheap b (hg.S_lt ho))
    · intro b hb _; exact hheap b hb
    · intro j p hj hd
      by_cases h : j = k
      · left; show C.w.heap.size ≤ if j = k then C.w.heap.size else C.μ j; rw [if_pos h]; exact Nat.le_refl _
      · exact .inr ⟨j, p, by rw [← hset j h]; exact hj, hd, (hmu j h).symm⟩
    · intro j p hj
      by_cases h : j = k
      · rw [h] at hj ⊢; rw [hk] at hj; injection hj with hj; exact ⟨_, hsetk, fun _ => by rw [← hj]; rfl⟩
      · exact ⟨p, by show (C.H.set k _)[j]? = _; rw [hset j h]; exact hj, fun _ => rfl⟩
    · intro j p hj h1 _
      have h : j ≠ k := fun ee => by rw [ee, hk] at hj; injection hj with hj; subst hj; exact h1 rfl
      exact hmu j h
    · intro j e1 sz1 len1 hj
      have h : j ≠ k := fun ee => by rw [ee, hk] at hj; cases hj
      exact ⟨len1, by show (C.H.set k _)[j]? = _; rw [hset j h]; exact hj, Nat.le_refl _, fun _ => ⟨hmu j h, fun cur hc => ⟨cur, (hheap _ (hg.lt j _ hj (by simp [AObj.kind]))).trans hc, rfl⟩⟩⟩
    · intro j ver es hj
      have h : j ≠ k := fun ee => by rw [ee, hk] at hj; cases hj
      exact ⟨ver, es, by show (C.H.set k _)[j]? = _; rw [hset j h]; exact hj, Nat.le_refl _, fun _ => ⟨rfl, hheap _ (hg.lt j _ hj (by simp [AObj.kind]))⟩⟩
    · intro j e1 sz1 vs1 hj
      by_cases h : j = k
      · rw [h] at hj ⊢; rw [hk] at hj; injection hj with hj; injection hj with h1 h2 h3
        subst h1 h2 h3
        exact ⟨vs', hsetk, Nat.le_of_lt hlt, fun h => by omega⟩
      · exact ⟨vs1, by show (C.H.set k _)[j]? = _; rw [hset j h]; exact hj, Nat.le_refl _, fun _ => ⟨hmu j h, fun cur hc => ⟨cur, (hheap _ (hg.lt j _ hj (by simp [AObj.kind]))).trans hc, rfl⟩⟩⟩
  refine ⟨⟨?_, ?_, ?_, ?_, hg.tab.ext he⟩, he⟩
  · intro j p hj
    by_cases h : j = k
    · subst h; rw [hsetk] at hj; injection hj with hj; subst hj; exact hor he
    · rw [hset j h] at hj
      by_cases hd : p.kind = 6
      · cases p <;> first | trivial | (simp [AObj.kind] at hd)
      · exact ORel.ext he (hmu j h) (hheap _ (hg.lt j p hj hd)) rfl (hg.obj j p hj)
  · intro j p hj hd
    show (if j = k then C.w.heap.size else C.μ j) < w'.heap.size
    rw [hw]; simp
    by_cases h : j = k
    · rw [if_pos h]; omega
    · rw [if_neg h]; rw [hset j h] at hj; have := hg.lt j p hj hd; omega
  · intro i j p q hi hj hd1 hd2 hmm
    simp only at hmm
    by_cases h1 : i = k <;> by_cases h2 : j = k
    · rw [h1, h2]
    · rw [if_pos h1, if_neg h2] at hmm; rw [hset j h2] at hj; have := hg.lt j q hj hd2; omega
    · rw [if_neg h1, if_pos h2] at hmm; rw [hset i h1] at hi; have := hg.lt i p hi hd1; omega
    · rw [if_neg h1, if_neg h2] at hmm; rw [hset i h1] at hi; rw [hset j h2] at hj; exact hg.inj i j p q hi hj hd1 hd2 hmm
  · intro b hb
    exact hg.fresh b (by have h : w'.heap.size ≤ b := hb; rw [hw] at h; simp at h; omega)
variable {P : Program} {ro : Option Nat} {H0 : List AObj} {Q : Exit → ASt → Prop} {st : ASt} {dst : Option Tmp} {ty : TypeId} {pos : String} {after : Array Edge} {guard : Option (Nat × Bool)} {K : AV → List AObj → Prop}
def grS (k : Nat) : List AV → AV
  | [] => .sl .zero []
  | x :: xs => .gr k (x :: xs).length
def grO (e sz : Nat) : List AV → AObj
  | [] => .dead
  | x :: xs => .grow e sz (flat (x :: xs))
theorem AOp_append_zeroGr {t e sz by_ : Nat} {s x : Operand} (n : Nat) (hn : st.heap[n]? = some .dead) (zs : List Value) (ys : List AV) (tk : Tok) (hs : st.opd s = .sl .zero []) (hx : st.opd x = .sl tk ys)
    (ht : SliceT P t e) (hsz : SzOf P e sz) (hby : BytesOf P e by_) (hz : ZeroOf P e zs) (hz0 : zs.length = sz) (hpos : 0 < sz) (huy : Uni sz ys) (hcell : ∀ c, c ∈ flat ys → c.isCell = true) (hne : ys ≠ [])
    (hbound : ys.length * by_ ≤ 140737488355328) (h63 : ys.length ≤ 9223372036854775807)
    (k' : K (.gr n ys.length) (st.heap.set n (.grow e sz (flat ys)))) :
    AOp P ro ⟨dst, .call { callee := .builtin .append, args := #[s, x], argTypes := #[t, t] }, ty, pos, after, guard⟩ K st :=
  AOp_value (fun ρ => semAt_of (fun c => by simp) ro ρ) fun C a hg hH hsr => by
    have h1 := hsr.opd s
    have h2 := hsr.opd x
    rw [hs] at h1
    rw [hx] at h2
    obtain ⟨ad1, c1, e1, hc1, htok, _⟩ := sl_values h1
    obtain ⟨ad2, c2, e2, hc2, _, news, hnl, hnrel, hncell⟩ := sl_values h2
    obtain ⟨_, rfl⟩ := htok
    have hfy := flat_length huy
    have hm : 0 < ys.length := List.length_pos_iff.2 hne
    have hflne : flat ys ≠ [] := fun he => by rw [he] at hfy; have := Nat.mul_pos hm hpos; simp at hfy; omega
    obtain ⟨b2, o2, rfl, hnc2⟩ := hncell hflne
    obtain ⟨i, z, hi, i1, i2, i3, i4⟩ := info_of hsz hby hz
    have hnl' : news.length = ys.length * i.size := by rw [hnl, hfy, i1]
    obtain ⟨cap, hcap⟩ : ∃ cap, cap = grownCap C.w ys.length 0 e := ⟨_, rfl⟩
    have hcge : ys.length ≤ cap := by rw [hcap]; exact grownCap_ge _ _ _ _
    have hcle : cap ≤ maxLen := by rw [hcap]; exact grownCap_le_maxLen _ _ _ _ (by simp only [maxLen]; omega)
    obtain ⟨cur', hcur'⟩ : ∃ cur', cur' = news.toArray ++ Builtin.zeroCells z.cells (cap - ys.length) := ⟨_, rfl⟩
    have hrun : (Builtin.append_ #[t, t] ty #[.slice ad1 0 0, .slice (some ⟨b2, o2, none⟩) ys.length c2]).run P C.w = .ok (.slice (some ⟨C.w.heap.size, 0, none⟩) ys.length cap) (C.w.drew.alloc (.cells cur' e)) := by
      cases ad1 with
      | none =>
        have := run_append_nil (P := P) (ty := ty) C.w t e i z ht hi i3 ⟨b2, o2, none⟩ ys.length c2 news hnl' hnc2 hm (by omega) (by rw [i2]; omega)
        rw [this, hcur', hcap]
      | some a1 =>
        have := run_append_grow (P := P) (ty := ty) C.w t e i z ht hi i3 a1 0 0 [] (by simp) (fun j u hu => by simp at hu) ⟨b2, o2, none⟩ ys.length c2 news hnl' hnc2 (by omega) (by omega) (growslice_fits (by omega) (by rw [i2]; simpa using hbound))
        simp only [Nat.zero_add] at this
        rw [this, hcur', hcap]; simp
    have hzs : z.cells.size = sz := by rw [← hz0, ← i4]; simp
    have hcs' : cur'.size = cap * sz := by
      rw [hcur']; simp only [Array.size_append, List.size_toArray, size_zeroCells, hzs, hnl', i1, ← Nat.add_mul]
      congr 1; omega
    have hfit2 : ys.length * sz ≤ cur'.size := by rw [hcs']; exact Nat.mul_le_mul_right _ hcge
    have hnC : C.H[n]? = some .dead := by rw [hH]; exact hn
    have hnl := (List.getElem?_eq_some_iff.1 hnC).1
    obtain ⟨hg', hx'⟩ := step_at hg n hnC (.grow e sz (flat ys)) (.cells cur' e) (C.w.drew.alloc (.cells cur' e)) rfl ⟨rfl, rfl, rfl, by first | exact Nat.le_refl _ | exact Nat.le_add_right _ _⟩ (by simp [AObj.kind]) rfl (fun hxx => by
      refine ⟨cur', ?_, by rw [hfy]; exact hfit2, ?_, fun j hj hj' => ?_⟩
      · simp only [if_true]; exact heap_alloc_new C.w.drew _
      · simp only [if_true]; exact hg.fresh _ (Nat.le_refl _)
      · have hgj : cur'[j]? = news[j]? := by
          rw [hcur', Array.getElem?_append_left (by simp; omega)]; simp
        rw [Array.getElem?_eq_getElem hj', List.getElem?_eq_getElem (by omega)] at hgj
        injection hgj with hgj
        rw [hgj]; exact ⟨(hnrel j hj (by omega)).ext hxx, hcell _ (by simp)⟩)
    refine ⟨_, .slice (some ⟨C.w.heap.size, 0, none⟩) ys.length cap, .gr n ys.length, ?_, hg', hx', ?_, by rw [← hH] at k'; exact k'⟩
    · simp only [List.length_nil] at e1
      simp only [execOp, resolve, invoke, builtin, List.map_toArray, List.map_cons, List.map_nil, Sem.run_bind, Sem.run_pure, Result.andThen_ok, e1, e2, hrun]
    · refine .gr n _ _ _ ⟨e, sz, flat ys, by show (C.H.set n _)[n]? = _; simp [hnl], by rw [hfy]; exact Nat.le_refl _, hpos, fun _ => ⟨cur', by simp, ?_, hcle, hcge, hcs'⟩⟩
      simp only [if_true]; exact heap_alloc_new C.w.drew _
theorem AOp_append_gr1 {t e sz by_ : Nat} {s x : Operand} (zs : List Value) (k : Nat) (xs ys : List AV) (tk : Tok) (hs : st.opd s = .gr k xs.length) (hx : st.opd x = .sl tk ys) (hh : st.heap[k]? = some (.grow e sz (flat xs)))
    (ht : SliceT P t e) (hsz : SzOf P e sz) (hby : BytesOf P e by_) (hz : ZeroOf P e zs) (hz0 : zs.length = sz) (hpos : 0 < sz) (hux : Uni sz xs) (huy : Uni sz ys) (hcell : ∀ c, c ∈ flat ys → c.isCell = true)
    (hbound : (xs.length + ys.length) * by_ ≤ 140737488355328) (h63 : xs.length + ys.length ≤ 9223372036854775807)
    (k' : K (.gr k (xs.length + ys.length)) (st.heap.set k (.grow e sz (flat xs ++ flat ys)))) :
    AOp P ro ⟨dst, .call { callee := .builtin .append, args := #[s, x], argTypes := #[t, t] }, ty, pos, after, guard⟩ K st :=
  AOp_value (fun ρ => semAt_of (fun c => by simp) ro ρ) fun C a hg hH hsr => by
    have h1 := hsr.opd s
    have h2 := hsr.opd x
    rw [hs] at h1
    rw [hx] at h2
    obtain ⟨ad2, c2, e2, hc2, _, news, hnl, hnrel, hncell⟩ := sl_values h2
    have hfx := flat_length hux
    have hfy := flat_length huy
    have hrunE : ∀ v w', (Builtin.append_ #[t, t] ty #[a.eval s, a.eval x]).run P C.w = .ok v w' → (execOp a.eval ⟨dst, .call { callee := .builtin .append, args := #[s, x], argTypes := #[t, t] }, ty, pos, after, guard⟩).run P C.w = .ok (.value v) w' := fun v w' h => by
      simp [execOp, resolve, invoke, builtin, h]
    generalize hss : a.eval s = ss at h1
    have h1' := h1
    cases h1 with
    | gr _ _ ad1 c1 hgr =>
    rw [hss, e2] at hrunE
    have hhC : C.H[k]? = some (.grow e sz (flat xs)) := by rw [hH]; exact hh
    obtain ⟨e', sz', vs', hk', _, _, hr⟩ := hgr
    rw [hhC] at hk'
    injection hk' with hk'; injection hk' with q1 q2 q3
    subst q1 q2 q3
    obtain ⟨cur, rfl, hb, hcm, hc1, hcs⟩ := hr (by rw [hfx])
    obtain ⟨cur2, hb2, hfit0, hS, horel⟩ := hg.obj k _ hhC
    rw [hb] at hb2
    injection hb2 with hb2; injection hb2 with hb2 _ _
    subst hb2
    obtain ⟨i, z, hi, i1, i2, i3, i4⟩ := info_of hsz hby hz
    by_cases hm : ys.length = 0
    · have hy : ys = [] := List.eq_nil_of_length_eq_zero hm
      subst hy
      refine ⟨C, _, .gr k xs.length, hrunE _ _ (append_none_run ht hsz ⟨i, hi⟩ _ _ _ hc1 _ _ _), hg, Ext.refl C, h1', ?_⟩
      have : C.H = st.heap.set k (.grow e sz (flat xs ++ flat [])) := by
        rw [hH]; apply List.ext_getElem?; intro j; rw [List.getElem?_set]
        by_cases hj : k = j
        · subst hj; have := (List.getElem?_eq_some_iff.1 hh).1; rw [if_pos rfl, if_pos this, hh]; simp [flat]
        · simp [hj]
      rw [this]; simpa using k'
    · have hflne : flat ys ≠ [] := fun he => by rw [he] at hfy; have := Nat.mul_pos (Nat.pos_of_ne_zero hm) hpos; simp at hfy; omega
      have hflp : 0 < (flat ys).length := List.length_pos_iff.2 hflne
      obtain ⟨b2, o2, rfl, hnc2⟩ := hncell hflne
      have hones := ones_of (by omega) hnrel hcell
      have hnl' : news.length = ys.length * i.size := by rw [hnl, hfy, i1]
      have hmulsum : (xs.length + ys.length) * sz = xs.length * sz + ys.length * sz := Nat.add_mul _ _ _
      by_cases hroom : xs.length + ys.length ≤ c1
      · have hfit2 : (xs.length + ys.length) * sz ≤ cur.size := by rw [hcs]; exact Nat.mul_le_mul_right _ hroom
        have hr := run_append_room (P := P) C.w t ty e i ht hi (C.μ k) xs.length c1 cur hb ⟨b2, o2, none⟩ ys.length c2 news hnl' hnc2 hones hroom (by rw [i1]; omega)
        obtain ⟨cur', hcur'⟩ : ∃ cur', cur' = (splice cur.toList (xs.length * sz) news).toArray := ⟨_, rfl⟩
        have hspl : xs.length * sz + news.length ≤ cur.toList.length := by simp; omega
        have hr' : (Builtin.append_ #[t, t] ty #[.slice (some ⟨C.μ k, 0, none⟩) xs.length c1, .slice (some ⟨b2, o2, none⟩) ys.length c2]).run P C.w = .ok (.slice (some ⟨C.μ k, 0, none⟩) (xs.length + ys.length) c1) (C.w.setRow (C.μ k) cur') := by
          rw [hr, hcur', i1]; rfl
        have hcs' : cur'.size = cur.size := by rw [hcur']; simp only [List.size_toArray]; rw [splice_length hspl]; simp
        have hget : ∀ j, cur'[j]? = if j < xs.length * sz then cur[j]? else if j < xs.length * sz + news.length then news[j - xs.length * sz]? else cur[j]? := fun j => by
          rw [hcur', List.getElem?_toArray, splice_get hspl j]; simp
        have hmlt := hg.lt k _ hhC (by simp [AObj.kind])
        have hkl : k < C.H.length := (List.getElem?_eq_some_iff.1 hhC).1
        have hself : (C.w.setRow (C.μ k) cur').heap[C.μ k]? = some (.cells cur' e (0, 0)) := by rw [setRow_heap_eq hb]; simp [hmlt]
        obtain ⟨hg', hx'⟩ := step_gr_in hg k (vs' := flat xs ++ flat ys) hhC hb (setRow_heap_eq hb) ⟨rfl, rfl, rfl, by first | exact Nat.le_refl _ | exact Nat.le_add_right _ _⟩ hcs' (by simp) rfl (fun hxx => by
          refine ⟨cur', hself, by rw [List.length_append, hfx, hfy, hcs']; omega, hS, fun j hj hj' => ?_⟩
          have hgj := hget j
          rw [Array.getElem?_eq_getElem hj'] at hgj
          rw [List.length_append, hfx, hfy] at hj
          by_cases h : j < xs.length * sz
          · rw [List.getElem_append_left (by omega)]
            rw [if_pos h, Array.getElem?_eq_getElem (by omega)] at hgj
            injection hgj with hgj
            rw [hgj]
            exact ⟨(horel j (by omega) (by omega)).1.ext hxx, (horel j (by omega) (by omega)).2⟩
          · rw [List.getElem_append_right (by omega)]
            rw [if_neg h, if_pos (by omega), List.getElem?_eq_getElem (by omega)] at hgj
            injection hgj with hgj
            rw [hgj]
            have := hnrel (j - xs.length * sz) (by omega) (by omega)
            simp only [hfx]; exact ⟨this.ext hxx, hcell _ (by simp)⟩)
        refine ⟨_, _, .gr k (xs.length + ys.length), hrunE _ _ hr', hg', hx', ?_, by rw [← hH] at k'; exact k'⟩
        refine .gr k _ _ _ ⟨e, sz, flat xs ++ flat ys, by show (C.H.set k _)[k]? = _; simp [hkl], by rw [List.length_append, hfx, hfy]; omega, hpos, fun _ => ⟨cur', rfl, hself, hcm, hroom, by rw [hcs', hcs]⟩⟩
      ·
        obtain ⟨olds, holds⟩ : ∃ olds, olds = cur.toList.take (xs.length * sz) := ⟨_, rfl⟩
        have hxfit : xs.length * sz ≤ cur.size := by rw [hfx] at hfit0; exact hfit0
        have hol2 : olds.length = xs.length * sz := by rw [holds, List.length_take]; simp; omega
        have hlo : olds.length = xs.length * i.size := by rw [hol2, i1]
        have hget0 : ∀ j, j < xs.length * sz → olds[j]? = cur[j]? := fun j hj => by rw [holds, List.getElem?_take_of_lt hj]; simp
        have hold' : ∀ j u, olds[j]? = some u → C.w.cell? ((⟨C.μ k, 0, none⟩ : Addr).add j) = some u := fun j u hu => by
          have hj : j < xs.length * sz := by have := (List.getElem?_eq_some_iff.1 hu).1; omega
          rw [hget0 j hj] at hu
          rw [add_mk]; simp [World.cell?, hb, hu]
        have hgr := run_append_grow (P := P) (ty := ty) C.w t e i z ht hi i3 ⟨C.μ k, 0, none⟩ xs.length c1 olds hlo hold' ⟨b2, o2, none⟩ ys.length c2 news hnl' hnc2 (by omega) (by omega) (growslice_fits (by omega) (by rw [i2]; exact hbound))
        obtain ⟨cap, hcap⟩ : ∃ cap, cap = grownCap C.w (xs.length + ys.length) c1 e := ⟨_, rfl⟩
        have hcge : xs.length + ys.length ≤ cap := by rw [hcap]; exact grownCap_ge _ _ _ _
        have hcle : cap ≤ maxLen := by rw [hcap]; exact grownCap_le_maxLen _ _ _ _ (by simp only [maxLen]; omega)
        rw [← hcap] at hgr
        obtain ⟨cur', hcur'⟩ : ∃ cur', cur' = olds.toArray ++ news.toArray ++ Builtin.zeroCells z.cells (cap - (xs.length + ys.length)) := ⟨_, rfl⟩
        rw [← hcur'] at hgr
        have hzs : z.cells.size = sz := by rw [← hz0, ← i4]; simp
        have hcs' : cur'.size = cap * sz := by
          rw [hcur']; simp only [Array.size_append, List.size_toArray, size_zeroCells, hzs, hlo, hnl', i1, ← Nat.add_mul]
          congr 1; omega
        have hfit2 : (xs.length + ys.length) * sz ≤ cur'.size := by rw [hcs']; exact Nat.mul_le_mul_right _ hcge
        have hkl : k < C.H.length := (List.getElem?_eq_some_iff.1 hhC).1
        have hblk : (C.w.drew.alloc (.cells cur' e)).heap[C.w.heap.size]? = some (.cells cur' e (0, 0)) := heap_alloc_new C.w.drew _
        have hnl2 : news.length = ys.length * sz := by rw [hnl', i1]
        obtain ⟨hg', hx'⟩ := step_gr_move hg k (vs' := flat xs ++ flat ys) (w' := C.w.drew.alloc (.cells cur' e)) hhC rfl ⟨rfl, rfl, rfl, by first | exact Nat.le_refl _ | exact Nat.le_add_right _ _⟩ (by rw [List.length_append]; omega) rfl (fun hxx => by
          refine ⟨cur', by show (C.w.drew.alloc (.cells cur' e)).heap[if k = k then _ else _]? = _; rw [if_pos rfl]; exact hblk, by rw [List.length_append, hfx, hfy]; omega, by show C.S (if k = k then _ else _) = _; rw [if_pos rfl]; exact hg.fresh _ (Nat.le_refl _), fun j hj hj' => ?_⟩
          rw [List.length_append, hfx, hfy] at hj
          have hgj : cur'[j]? = (olds ++ news)[j]? := by
            rw [hcur', Array.getElem?_append_left (by simp; omega)]
            simp
          rw [Array.getElem?_eq_getElem hj'] at hgj
          by_cases h : j < xs.length * sz
          · rw [List.getElem_append_left (by omega)]
            rw [List.getElem?_append_left (by omega), hget0 j h, Array.getElem?_eq_getElem (by omega)] at hgj
            injection hgj with hgj
            rw [hgj]; exact ⟨(horel j (by omega) (by omega)).1.ext hxx, (horel j (by omega) (by omega)).2⟩
          · rw [List.getElem_append_right (by omega)]
            rw [List.getElem?_append_right (by omega), List.getElem?_eq_getElem (by omega)] at hgj
            injection hgj with hgj
            rw [hgj]
            have := hnrel (j - xs.length * sz) (by omega) (by omega)
            simp only [hfx, hol2]; exact ⟨this.ext hxx, hcell _ (by simp)⟩)
        refine ⟨_, _, .gr k (xs.length + ys.length), hrunE _ _ hgr, hg', hx', ?_, by rw [← hH] at k'; exact k'⟩
        refine .gr k _ _ _ ⟨e, sz, flat xs ++ flat ys, by show (C.H.set k _)[k]? = _; simp [hkl], by rw [List.length_append, hfx, hfy]; omega, hpos, fun _ => ⟨cur', by simp, ?_, hcle, hcge, hcs'⟩⟩
        show (C.w.drew.alloc (.cells cur' e)).heap[if k = k then _ else _]? = _; rw [if_pos rfl]; exact hblk
theorem AOp_append_Gr {t e sz by_ : Nat} {s x : Operand} (zs : List Value) (k : Nat) (xs ys : List AV) (tk : Tok) (hs : st.opd s = grS k xs) (hx : st.opd x = .sl tk ys) (hh : st.heap[k]? = some (grO e sz xs))
    (ht : SliceT P t e) (hsz : SzOf P e sz) (hby : BytesOf P e by_) (hz : ZeroOf P e zs) (hz0 : zs.length = sz) (hpos : 0 < sz) (hux : Uni sz xs) (huy : Uni sz ys) (hcell : ∀ c, c ∈ flat ys → c.isCell = true)
    (hbound : (xs.length + ys.length) * by_ ≤ 140737488355328) (h63 : xs.length + ys.length ≤ 9223372036854775807)
    (k' : K (grS k (xs ++ ys)) (st.heap.set k (grO e sz (xs ++ ys)))) :
    AOp P ro ⟨dst, .call { callee := .builtin .append, args := #[s, x], argTypes := #[t, t] }, ty, pos, after, guard⟩ K st := by
  cases xs with
  | nil =>
    cases ys with
    | nil =>
      refine AOp_append_zero0 zs tk hs hx ht hsz hby hz ?_
      have : st.heap.set k (grO e sz ([] ++ [])) = st.heap := by
        apply List.ext_getElem?
        intro i
        rw [List.getElem?_set]
        split
        · rename_i h; subst h
          have hl := (List.getElem?_eq_some_iff.1 hh).1
          simp only [hl, if_true]; exact hh.symm
        · rfl
      rw [this] at k'; exact k'
    | cons y ys => exact AOp_append_zeroGr k hh zs (y :: ys) tk hs hx ht hsz hby hz hz0 hpos huy hcell (by simp) (by simpa using hbound) (by simpa using h63) k'
  | cons x0 xs =>
    refine AOp_append_gr1 zs k (x0 :: xs) ys tk hs hx hh ht hsz hby hz hz0 hpos hux huy hcell hbound h63 ?_
    have e1 : grS k (x0 :: xs ++ ys) = .gr k ((x0 :: xs).length + ys.length) := by simp [grS]; omega
    have e2 : grO e sz (x0 :: xs ++ ys) = .grow e sz (flat (x0 :: xs) ++ flat ys) := by simp [grO, flat]
    rw [e1, e2] at k'; exact k'
theorem gr_frz {C : Ctx} (hg : Good C) {m k e sz : Nat} {xs : List AV} {x : Value} (h : VRel C (grS k xs) x) (hk : C.H[k]? = some (grO e sz xs)) (hl : (flat xs).length = xs.length * sz) (hm : m ≤ k) (hgt : Good (C.take m)) (hsc : ScopedL m (flat xs)) :
    ∃ C', C'.w = C.w ∧ C'.H = (C.take m).H ∧ Good C' ∧ Ext (C.take m) C' ∧ VRel C' (.sl .none xs) x := by
  cases xs with
  | nil => exact ⟨C.take m, rfl, rfl, hgt, Ext.refl _, Forget.tok _ _ _ _ (h.take (m := m) (by simp [grS, Scoped, ScopedL]))⟩
  | cons x0 xs =>
    have hk' : C.H[k]? = some (.grow e sz (flat (x0 :: xs))) := hk
    have hh : VRel C (.gr k (x0 :: xs).length) x := h
    cases hh with
    | gr _ _ ad c hgr =>
    obtain ⟨e', sz', vs', hk2, _, _, hr⟩ := hgr
    rw [hk'] at hk2
    injection hk2 with hk2; injection hk2 with q1 q2 q3
    subst q1 q2 q3
    obtain ⟨cur, rfl, hb, hcm, hc1, hcs⟩ := hr hl.symm
    obtain ⟨cur2, hb2, hfit, hS, horel⟩ := hg.obj k _ hk'
    rw [hb] at hb2
    injection hb2 with hb2; injection hb2 with hb2 _ _
    subst hb2
    have hlt := hg.lt k _ hk' (by simp [AObj.kind])
    have hno : ∀ (j : Nat) (o : AObj), (C.take m).H[j]? = some o → o.kind ≠ 6 → C.μ j ≠ C.μ k := fun j o hj ho heq => by
      have hj' : (C.H.take m)[j]? = some o := hj
      have hjm : j < m := by
        have := (List.getElem?_eq_some_iff.1 hj').1; simp at this; omega
      rw [List.getElem?_take_of_lt hjm] at hj'
      have := hg.inj j k o _ hj' hk' ho (by simp [AObj.kind]) heq
      omega
    obtain ⟨hg2, he2⟩ := step_claim hgt (C.μ k) (flat (x0 :: xs)).length hlt (by show C.S (C.μ k) ≤ _; rw [hS]; exact Nat.zero_le _) hno rfl
    refine ⟨{ C.take m with S := fun x => if x = C.μ k then (flat (x0 :: xs)).length else (C.take m).S x }, rfl, rfl, hg2, he2, .sl .none _ _ _ c (fun j => cur.getD j undef) rfl hc1 (fun _ => ⟨_, _, rfl, fun j hj => ⟨by show _ < if _ then _ else _; rw [if_pos rfl]; omega, ?_⟩⟩) (fun j hj => ?_) trivial⟩
    · have hj2 : j < cur.size := by omega
      show C.w.cell? _ = _
      simp [World.cell?, hb, hj2]
    · have hj2 : j < cur.size := by omega
      simp only [Array.getD, hj2, dif_pos]
      exact (((horel j hj hj2).1).take (ScopedL_iff.1 hsc _ (by simp))).ext he2
inductive ToV (m : Nat) (h : List AObj) : AV → AV → Prop
  | fgt {r v : AV} (hf : fgtW r v) : ToV m h r v
  | row (k e sz : Nat) {xs : List AV} (hk : h[k]? = some (grO e sz xs)) (hl : (flat xs).length = xs.length * sz) (hm : m ≤ k) (hsc : ScopedL m (flat xs)) : ToV m h (grS k xs) (.sl .none xs)
  | row2 (k e sz : Nat) {xs : List AV} {b b' : AV} (hk : h[k]? = some (grO e sz xs)) (hl : (flat xs).length = xs.length * sz) (hm : m ≤ k) (hsc : ScopedL m (flat xs)) (hb : fgtW b b') : ToV m h (.tup [grS k xs, b]) (.tup [.sl .none xs, b'])
def finGG (H : List AObj) (m : Nat) (v : AV) (H1 h : List AObj) (r : AV) : Prop := OutOk H h m ∧ ToV m h r v ∧ Scoped m v ∧ h.take m = H1
def finVG (P : Program) (H : List AObj) (m : Nat) (v : AV) (H1 : List AObj) (rs : List ResultVar) : Exit → ASt → Prop
  | .normal, st => finR P rs st (finGG H m v H1 st.heap)
  | .ret, st => finR P rs st (finGG H m v H1 st.heap)
  | _, _ => False
theorem ACall_VGA {f : Nat} {fn : Func} {c : Code} {args : List AV} {H H1 : List AObj} {v : AV} (m n : Nat) (rs : List ResultVar) (hf : P.funcs[f]? = some fn) (hb : fn.body = some c) (hn : fn.ntmps - args.length = n) (hr : fn.results = rs.toArray)
    (h : AW P none H c (finVG P H m v H1 rs) ⟨args ++ List.replicate n (.lit undef), H⟩) : ACall P f args H (fun r H' => r = v ∧ H' = H1) := by
  subst hn
  intro C vs hg hH hsz hv
  refine ACall_of_AW (P := P) hf hb ?_ C vs hg hH hsz hv (R := fun r H' => r = v ∧ H' = H1)
  refine AW_mono h ?_
  intro e st' hh
  have key : finR P rs st' (finGG H m v H1 st'.heap) → ∃ r, ResOk P fn st' r ∧ finGG H m v H1 st'.heap r := by
    intro hh
    cases rs with
    | nil => exact ⟨.tup [], by unfold ResOk; rw [hr], hh⟩
    | cons x rs =>
      cases rs with
      | nil =>
        refine ⟨_, ?_, hh.2⟩
        have := resPre_spec hh.1
        unfold ResOk; rw [hr]
        cases x with
        | tmp t => rfl
        | cell a t => exact this
      | cons y l =>
        refine ⟨_, ?_, hh.2⟩
        unfold ResOk; rw [hr]
        have h2 := resPres_spec hh.1
        cases x <;> exact ⟨_, rfl, h2⟩
  have fin : (∃ r, ResOk P fn st' r ∧ finGG H m v H1 st'.heap r) → ∀ C1 a, Good C1 → C1.H = st'.heap → SRel C1 st' a → ∃ u r C', (results fn a.tmps).run P C1.w = .ok u C1.w ∧ C'.w = C1.w ∧ Good C' ∧ (∀ C0, Ext C0 C1 → C0.H = H → Good C0 → Ext C0 C') ∧ VRel C' r u ∧ (r = v ∧ C'.H = H1) := by
    rintro ⟨r, hr, ho, hto, hsc, ht⟩ C1 a hg1 hH1 hs1
    obtain ⟨u, hrun, hrel⟩ := results_run hr hg1 hH1 hs1
    have ho' : OutOk C.H C1.H m := by rw [hH, hH1]; exact ho
    have hgt : Good (C1.take m) := Good.take hg hg1 ho'
    have hht : (C1.take m).H = H1 := by show C1.H.take m = H1; rw [hH1]; exact ht
    cases hto with
    | fgt hf => exact ⟨u, v, C1.take m, hrun, rfl, hgt, fun C0 hx h0 _ => hx.take (by rw [h0]; exact ho.2.1), (fgtW_spec _ _ hf _ _ hrel).take hsc, rfl, hht⟩
    | row k e sz hk hl hm hs2 =>
      obtain ⟨C', e1, e2, e3, e4, e5⟩ := gr_frz hg1 hrel (by rw [hH1]; exact hk) hl hm hgt hs2
      exact ⟨u, _, C', hrun, e1, e3, fun C0 hx h0 _ => (hx.take (by rw [h0]; exact ho.2.1)).trans e4, e5, rfl, e2.trans hht⟩
    | @row2 k e sz xs b b' hk hl hm hs2 hbb =>
      cases hrel with
      | tup _ us hsz hrel =>
        have h0 := hrel 0 (by simp)
        have h1 := hrel 1 (by simp)
        obtain ⟨C', e1, e2, e3, e4, e5⟩ := gr_frz hg1 h0 (by rw [hH1]; exact hk) hl hm hgt hs2
        have hsb : Scoped m b' := by simp only [Scoped, ScopedL] at hsc; exact hsc.2.1
        refine ⟨_, .tup [.sl .none xs, b'], C', hrun, e1, e3, fun C0 hx h0 _ => (hx.take (by rw [h0]; exact ho.2.1)).trans e4, .tup _ us hsz (fun i hi => ?_), rfl, e2.trans hht⟩
        match i, hi with
        | 0, _ => exact e5
        | 1, _ => exact ((fgtW_spec _ _ hbb _ _ h1).take hsb).ext e4
  cases e <;> first
    | exact fin (key hh)
    | exact hh.elim
section rules
variable {s : List AV} {h : List AObj}
theorem finVG_n {H H1 : List AObj} {m : Nat} {v : AV} {rs : List ResultVar} : finVG P H m v H1 rs .normal st = finR P rs st (finGG H m v H1 st.heap) := (rfl)
theorem finVG_r {H H1 : List AObj} {m : Nat} {v : AV} {rs : List ResultVar} : finVG P H m v H1 rs .ret st = finR P rs st (finGG H m v H1 st.heap) := (rfl)
theorem grS_nil (k : Nat) : grS k [] = .sl .zero [] := (rfl)
theorem grO_nil (e sz : Nat) : grO e sz [] = .dead := (rfl)
theorem okC_grS (k : Nat) (xs : List AV) : okC (grS k xs) = True := by cases xs <;> rfl
theorem grS_cells (k : Nat) (xs : List AV) : (grS k xs).cells = [grS k xs] := by cases xs <;> rfl
theorem osc_grO (n e sz : Nat) (xs : List AV) (h : ScopedL n (flat xs)) : OScoped n (grO e sz xs) = True := by cases xs <;> first | exact eq_true trivial | exact eq_true h
theorem sc_grS (n k : Nat) (xs : List AV) (hk : k < n) : Scoped n (grS k xs) = True := by cases xs <;> simp [grS, Scoped, ScopedL, hk]
end rules
attribute [push_cast] finVG_n finVG_r finGG grS_nil grO_nil okC_grS grS_cells osc_grO sc_grS
section olds
variable {ops : Array Oper} {eff : List (Option Nat)} {m : Nat} {pairs : List (Nat × List Bool × List Bool)} {olds : List (List Nat)}
def oldsOf (olds : List (List Nat)) (i : Nat) : List Nat := olds.getD i []
def backL (ts : List Nat) (base fin : List AV) : List AV := ts.foldl (fun l t => l.set t (base.getD t .junk)) fin
theorem backL_length : ∀ (ts : List Nat) (base fin : List AV), (backL ts base fin).length = fin.length
  | [], _, _ => rfl
  | t :: ts, base, fin => by
    show (backL ts base (fin.set t _)).length = _
    rw [backL_length ts]; simp
def DAllO (P : Program) (ro : Option Nat) (ops : Array Oper) (olds : List (List Nat)) (base fin : List AV) (stl : List (List Bool × List AObj)) (eff : List (Option Nat)) (vals : List AV) : List (Nat × List Bool × List Nat) → Prop
  | [] => True
  | p :: ps => DOne P ro ops p.1 (eff.getD p.1 none).isSome (keepG p.2.2 (backL (oldsOf olds p.1) base fin)) (stg stl p.2.1) (vals.getD p.1 .junk) (stg stl (match eff.getD p.1 none with | some k => p.2.1.set k true | none => p.2.1)) ∧ DAllO P ro ops olds base fin stl eff vals ps
theorem DAllO.all {base fin : List AV} {stl : List (List Bool × List AObj)} {vals : List AV} {n : Nat} (hn : fin.length = n) : ∀ {ps : List (Nat × List Bool × List Nat)}, DAllO P ro ops olds base fin stl eff vals ps →
    ∀ p, p ∈ pairsG n ps → DStep P ro ops (backL (oldsOf olds p.1) base fin) (stg stl) eff vals p.1 p.2.1 p.2.2
  | [], _, p, hp => by cases hp
  | q :: qs, h, p, hp => by
    have hp' : p = (q.1, q.2.1, maskG n q.2.2) ∨ p ∈ pairsG n qs := by simpa [pairsG] using hp
    rcases hp' with rfl | hp'
    · intro o ho
      have h1 := h.1 o ho
      rw [← keepM_maskG, backL_length, hn] at h1
      rcases h1 with ⟨h1, h2⟩ | ⟨h1, h2, h3⟩
      · exact .inl ⟨h1, h2⟩
      · refine .inr ⟨h1, h2, ?_⟩
        unfold effOf; cases he : eff.getD q.1 none with
        | none => rfl
        | some k => rw [he] at h3; cases h3
    · exact DAllO.all hn h.2 p hp'
theorem backL_0 (base fin : List AV) : backL [] base fin = fin := (rfl)
theorem backL_s (t : Nat) (ts : List Nat) (base fin : List AV) : backL (t :: ts) base fin = backL ts base (fin.set t (base.getD t .junk)) := (rfl)
end olds
attribute [push_cast] backL_0 backL_s oldsOf
end Ab
namespace Ab
open Go Go.Proofs
set_option maxRecDepth 10000
theorem ti3 : tInfo Tryz.prog 3 = some ⟨1, false, some [.int .i64 0], .int .i64⟩ := by kernel_rfl
theorem sz3 : SzOf Tryz.prog 3 1 := tI_sz ti3
theorem by3 : BytesOf Tryz.prog 3 8 := by unfold BytesOf; kernel_rfl
theorem zr3 : ZeroOf Tryz.prog 3 [.int .i64 0] := by unfold ZeroOf; kernel_rfl
theorem ti4 : tInfo Tryz.prog 4 = some ⟨1, false, some [.bool false], .bool⟩ := by kernel_rfl
theorem ti5 : tInfo Tryz.prog 5 = some ⟨1, false, some [.int .u8 0], .int .u8⟩ := by kernel_rfl
theorem un5 : Tryz.prog.underlying 5 = some (.int .u8) := tI_int ti5 rfl
theorem ti9 : tInfo Tryz.prog 9 = some ⟨1, false, some [.str []], .str⟩ := by kernel_rfl
theorem un9 : Tryz.prog.underlying 9 = some .string := tI_str ti9 rfl
theorem sz9 : SzOf Tryz.prog 9 1 := tI_sz ti9
theorem by9 : BytesOf Tryz.prog 9 16 := by unfold BytesOf; kernel_rfl
theorem zr9 : ZeroOf Tryz.prog 9 [.string ⟨#[]⟩] := by unfold ZeroOf; kernel_rfl
theorem ti22 : tInfo Tryz.prog 22 = some ⟨1, false, some [.sl .zero []], .slice 94 (some 6)⟩ := by kernel_rfl
theorem ti23 : tInfo Tryz.prog 23 = some ⟨1, false, some [.sl .zero []], .slice 25 (some 3)⟩ := by kernel_rfl
theorem sl23 : SliceT Tryz.prog 23 25 := (tI_slice ti23 rfl).1
theorem ti25 : tInfo Tryz.prog 25 = some ⟨3, true, some [.str [], .bool false, .sl .zero []], .struct [(0, 1, false), (1, 1, false), (2, 1, false)]⟩ := by kernel_rfl
theorem sz25 : SzOf Tryz.prog 25 3 := tI_sz ti25
theorem by25 : BytesOf Tryz.prog 25 48 := by unfold BytesOf; kernel_rfl
theorem zr25 : ZeroOf Tryz.prog 25 [.string ⟨#[]⟩, .bool false, .slice none 0 0] := by unfold ZeroOf; kernel_rfl
theorem ti26 : tInfo Tryz.prog 26 = some ⟨1, false, some [.sl .zero []], .slice 86 (some 2)⟩ := by kernel_rfl
theorem sl26 : SliceT Tryz.prog 26 86 := (tI_slice ti26 rfl).1
theorem ti28 : tInfo Tryz.prog 28 = some ⟨4, true, some [.str [], .bool false, .sl .zero [], .sl .zero []], .struct [(0, 3, true), (3, 1, false)]⟩ := by kernel_rfl
theorem ti40 : tInfo Tryz.prog 40 = some ⟨1, false, some [.lit (.nilFunc)], .other⟩ := by kernel_rfl
theorem ti48 : tInfo Tryz.prog 48 = some ⟨1, false, some [.sl .zero []], .slice 3 (some 1)⟩ := by kernel_rfl
theorem sl48 : SliceT Tryz.prog 48 3 := (tI_slice ti48 rfl).1
theorem sz48 : SzOf Tryz.prog 48 1 := tI_sz ti48
theorem by48 : BytesOf Tryz.prog 48 24 := by unfold BytesOf; kernel_rfl
theorem zr48 : ZeroOf Tryz.prog 48 [.slice none 0 0] := by unfold ZeroOf; kernel_rfl
theorem ti49 : tInfo Tryz.prog 49 = some ⟨1, false, some [.sl .zero []], .slice 107 (some 4)⟩ := by kernel_rfl
theorem sl49 : SliceT Tryz.prog 49 107 := (tI_slice ti49 rfl).1
theorem ti63 : tInfo Tryz.prog 63 = some ⟨6, true, some [.str [], .bool false, .sl .zero [], .str [], .bool false, .sl .zero []], .array 2 25 (some 3)⟩ := by kernel_rfl
theorem ti67 : tInfo Tryz.prog 67 = some ⟨1, false, some [.sl .zero []], .slice 117 (some 4)⟩ := by kernel_rfl
theorem sl67 : SliceT Tryz.prog 67 117 := (tI_slice ti67 rfl).1
theorem ti69 : tInfo Tryz.prog 69 = some ⟨3, true, some [.sl .zero [], .sl .zero [], .bool false], .struct [(0, 1, false), (1, 1, false), (2, 1, false)]⟩ := by kernel_rfl
theorem ti86 : tInfo Tryz.prog 86 = some ⟨2, true, some [.int .i64 0, .sl .zero []], .struct [(0, 1, false), (1, 1, false)]⟩ := by kernel_rfl
theorem sz86 : SzOf Tryz.prog 86 2 := tI_sz ti86
theorem by86 : BytesOf Tryz.prog 86 32 := by unfold BytesOf; kernel_rfl
theorem zr86 : ZeroOf Tryz.prog 86 [.int .i64 0, .slice none 0 0] := by unfold ZeroOf; kernel_rfl
theorem ti94 : tInfo Tryz.prog 94 = some ⟨6, true, some [.str [], .bool false, .sl .zero [], .str [], .bool false, .sl .zero []], .struct [(0, 3, true), (3, 3, true)]⟩ := by kernel_rfl
theorem ti107 : tInfo Tryz.prog 107 = some ⟨4, true, some [.str [], .str [], .bool false, .sl .zero []], .struct [(0, 1, false), (1, 3, true)]⟩ := by kernel_rfl
theorem sz107 : SzOf Tryz.prog 107 4 := tI_sz ti107
theorem by107 : BytesOf Tryz.prog 107 64 := by unfold BytesOf; kernel_rfl
theorem zr107 : ZeroOf Tryz.prog 107 [.string ⟨#[]⟩, .string ⟨#[]⟩, .bool false, .slice none 0 0] := by unfold ZeroOf; kernel_rfl
theorem ti117 : tInfo Tryz.prog 117 = some ⟨4, true, some [.int .i64 0, .int .i64 0, .int .i64 0, .sl .zero []], .struct [(0, 1, false), (1, 1, false), (2, 2, true)]⟩ := by kernel_rfl
theorem sz117 : SzOf Tryz.prog 117 4 := tI_sz ti117
theorem by117 : BytesOf Tryz.prog 117 48 := by unfold BytesOf; kernel_rfl
theorem zr117 : ZeroOf Tryz.prog 117 [.int .i64 0, .int .i64 0, .int .i64 0, .slice none 0 0] := by unfold ZeroOf; kernel_rfl
theorem ti121 : tInfo Tryz.prog 121 = some ⟨1, false, some [.sl .zero []], .slice 48 (some 1)⟩ := by kernel_rfl
theorem sl121 : SliceT Tryz.prog 121 48 := (tI_slice ti121 rfl).1
theorem ti125 : tInfo Tryz.prog 125 = some ⟨1, false, some [.lit (.map none)], .map⟩ := by kernel_rfl
theorem un125 : Tryz.prog.underlying 125 = some (.map 9 3) := by kernel_rfl
theorem ti147 : tInfo Tryz.prog 147 = some ⟨2, true, some [.int .i64 0, .int .i64 0], .struct [(0, 1, false), (1, 1, false)]⟩ := by kernel_rfl
theorem ti151 : tInfo Tryz.prog 151 = some ⟨5, true, some [.sl .zero [], .sl .zero [], .bool false, .lit (.map none), .int .i64 0], .struct [(0, 3, true), (3, 1, false), (4, 1, false)]⟩ := by kernel_rfl
theorem ti158 : tInfo Tryz.prog 158 = some ⟨1, false, some [.int .u64 0], .int .u64⟩ := by kernel_rfl
theorem ti163 : tInfo Tryz.prog 163 = some ⟨1, false, some [.sl .zero []], .slice 9 (some 1)⟩ := by kernel_rfl
theorem sl163 : SliceT Tryz.prog 163 9 := (tI_slice ti163 rfl).1
theorem ti175 : tInfo Tryz.prog 175 = some ⟨1, false, some [.sl .zero []], .slice 5 (some 1)⟩ := by kernel_rfl
theorem sl175 : SliceT Tryz.prog 175 5 := (tI_slice ti175 rfl).1
theorem ti192 : tInfo Tryz.prog 192 = some ⟨1, false, some [.lit (.map none)], .map⟩ := by kernel_rfl
theorem un192 : Tryz.prog.underlying 192 = some (.map 9 4) := by kernel_rfl
theorem ti204 : tInfo Tryz.prog 204 = some ⟨1, true, some [.sl .zero []], .struct [(0, 1, false)]⟩ := by kernel_rfl
theorem ok14 : callOk Tryz.prog 14 = true := by kernel_rfl
theorem ok15 : callOk Tryz.prog 15 = true := by kernel_rfl
theorem ok16 : callOk Tryz.prog 16 = true := by kernel_rfl
theorem ok20 : callOk Tryz.prog 20 = true := by kernel_rfl
theorem ok25 : callOk Tryz.prog 25 = true := by kernel_rfl
theorem ok27 : callOk Tryz.prog 27 = true := by kernel_rfl
theorem ok28 : callOk Tryz.prog 28 = true := by kernel_rfl
theorem ok31 : callOk Tryz.prog 31 = true := by kernel_rfl
theorem ok35 : callOk Tryz.prog 35 = true := by kernel_rfl
theorem ok37 : callOk Tryz.prog 37 = true := by kernel_rfl
theorem ok38 : callOk Tryz.prog 38 = true := by kernel_rfl
theorem ok39 : callOk Tryz.prog 39 = true := by kernel_rfl
theorem ok43 : callOk Tryz.prog 43 = true := by kernel_rfl
theorem ok50 : callOk Tryz.prog 50 = true := by kernel_rfl
theorem ok51 : callOk Tryz.prog 51 = true := by kernel_rfl
theorem ok54 : callOk Tryz.prog 54 = true := by kernel_rfl
theorem ok56 : callOk Tryz.prog 56 = true := by kernel_rfl
theorem ok58 : callOk Tryz.prog 58 = true := by kernel_rfl
theorem ok59 : callOk Tryz.prog 59 = true := by kernel_rfl
theorem ok63 : callOk Tryz.prog 63 = true := by kernel_rfl
theorem ok64 : callOk Tryz.prog 64 = true := by kernel_rfl
theorem ok67 : callOk Tryz.prog 67 = true := by kernel_rfl
theorem ok68 : callOk Tryz.prog 68 = true := by kernel_rfl
theorem ok69 : callOk Tryz.prog 69 = true := by kernel_rfl
theorem ok70 : callOk Tryz.prog 70 = true := by kernel_rfl
theorem ok71 : callOk Tryz.prog 71 = true := by kernel_rfl
theorem ok72 : callOk Tryz.prog 72 = true := by kernel_rfl
theorem ok74 : callOk Tryz.prog 74 = true := by kernel_rfl
theorem ok75 : callOk Tryz.prog 75 = true := by kernel_rfl
theorem ok76 : callOk Tryz.prog 76 = true := by kernel_rfl
theorem ok78 : callOk Tryz.prog 78 = true := by kernel_rfl
theorem ok83 : callOk Tryz.prog 83 = true := by kernel_rfl
theorem ok84 : callOk Tryz.prog 84 = true := by kernel_rfl
theorem ok85 : callOk Tryz.prog 85 = true := by kernel_rfl
theorem ok86 : callOk Tryz.prog 86 = true := by kernel_rfl
theorem ok87 : callOk Tryz.prog 87 = true := by kernel_rfl
theorem ok89 : callOk Tryz.prog 89 = true := by kernel_rfl
theorem ok90 : callOk Tryz.prog 90 = true := by kernel_rfl
theorem ok91 : callOk Tryz.prog 91 = true := by kernel_rfl
theorem ok92 : callOk Tryz.prog 92 = true := by kernel_rfl
theorem ok93 : callOk Tryz.prog 93 = true := by kernel_rfl
theorem ok94 : callOk Tryz.prog 94 = true := by kernel_rfl
theorem ok101 : callOk Tryz.prog 101 = true := by kernel_rfl
theorem ok102 : callOk Tryz.prog 102 = true := by kernel_rfl
theorem ok103 : callOk Tryz.prog 103 = true := by kernel_rfl
theorem ok108 : callOk Tryz.prog 108 = true := by kernel_rfl
theorem ok109 : callOk Tryz.prog 109 = true := by kernel_rfl
theorem ok110 : callOk Tryz.prog 110 = true := by kernel_rfl
theorem ok111 : callOk Tryz.prog 111 = true := by kernel_rfl
theorem ok112 : callOk Tryz.prog 112 = true := by kernel_rfl
theorem ok114 : callOk Tryz.prog 114 = true := by kernel_rfl
theorem ok115 : callOk Tryz.prog 115 = true := by kernel_rfl
theorem ok116 : callOk Tryz.prog 116 = true := by kernel_rfl
theorem ok117 : callOk Tryz.prog 117 = true := by kernel_rfl
theorem ok118 : callOk Tryz.prog 118 = true := by kernel_rfl
theorem ok119 : callOk Tryz.prog 119 = true := by kernel_rfl
theorem ok120 : callOk Tryz.prog 120 = true := by kernel_rfl
theorem ok121 : callOk Tryz.prog 121 = true := by kernel_rfl
theorem ok124 : callOk Tryz.prog 124 = true := by kernel_rfl
theorem ok125 : callOk Tryz.prog 125 = true := by kernel_rfl
theorem ok126 : callOk Tryz.prog 126 = true := by kernel_rfl
theorem ok127 : callOk Tryz.prog 127 = true := by kernel_rfl
theorem ok128 : callOk Tryz.prog 128 = true := by kernel_rfl
theorem ok129 : callOk Tryz.prog 129 = true := by kernel_rfl
theorem ok130 : callOk Tryz.prog 130 = true := by kernel_rfl
theorem ok131 : callOk Tryz.prog 131 = true := by kernel_rfl
theorem ok132 : callOk Tryz.prog 132 = true := by kernel_rfl
theorem ok133 : callOk Tryz.prog 133 = true := by kernel_rfl
theorem ok134 : callOk Tryz.prog 134 = true := by kernel_rfl
theorem ok135 : callOk Tryz.prog 135 = true := by kernel_rfl
theorem ok139 : callOk Tryz.prog 139 = true := by kernel_rfl
theorem ok142 : callOk Tryz.prog 142 = true := by kernel_rfl
theorem ok143 : callOk Tryz.prog 143 = true := by kernel_rfl
theorem ok144 : callOk Tryz.prog 144 = true := by kernel_rfl
theorem ok145 : callOk Tryz.prog 145 = true := by kernel_rfl
theorem ok146 : callOk Tryz.prog 146 = true := by kernel_rfl
theorem ok147 : callOk Tryz.prog 147 = true := by kernel_rfl
theorem ok148 : callOk Tryz.prog 148 = true := by kernel_rfl
theorem ok149 : callOk Tryz.prog 149 = true := by kernel_rfl
theorem ok150 : callOk Tryz.prog 150 = true := by kernel_rfl
theorem ok151 : callOk Tryz.prog 151 = true := by kernel_rfl
theorem ok152 : callOk Tryz.prog 152 = true := by kernel_rfl
theorem ok153 : callOk Tryz.prog 153 = true := by kernel_rfl
theorem ok154 : callOk Tryz.prog 154 = true := by kernel_rfl
theorem ok155 : callOk Tryz.prog 155 = true := by kernel_rfl
theorem ok166 : callOk Tryz.prog 166 = true := by kernel_rfl
theorem ok167 : callOk Tryz.prog 167 = true := by kernel_rfl
theorem ok168 : callOk Tryz.prog 168 = true := by kernel_rfl
theorem ok169 : callOk Tryz.prog 169 = true := by kernel_rfl
theorem ok170 : callOk Tryz.prog 170 = true := by kernel_rfl
theorem ok171 : callOk Tryz.prog 171 = true := by kernel_rfl
theorem ok173 : callOk Tryz.prog 173 = true := by kernel_rfl
theorem ok174 : callOk Tryz.prog 174 = true := by kernel_rfl
theorem ok175 : callOk Tryz.prog 175 = true := by kernel_rfl
theorem ok176 : callOk Tryz.prog 176 = true := by kernel_rfl
theorem ok177 : callOk Tryz.prog 177 = true := by kernel_rfl
theorem ok178 : callOk Tryz.prog 178 = true := by kernel_rfl
theorem nk184 : callOk Tryz.prog 184 = false := by kernel_rfl
theorem xc184 : ExtCmp Tryz.prog 184 := ⟨_, rfl, by kernel_rfl, by kernel_rfl, by kernel_rfl, by kernel_rfl⟩
theorem ok187 : callOk Tryz.prog 187 = true := by kernel_rfl
theorem ok188 : callOk Tryz.prog 188 = true := by kernel_rfl
theorem ok189 : callOk Tryz.prog 189 = true := by kernel_rfl
theorem ok200 : callOk Tryz.prog 200 = true := by kernel_rfl
theorem ok201 : callOk Tryz.prog 201 = true := by kernel_rfl
theorem dr : Tryz.prog.follows .mixedOrders = true := by kernel_rfl
attribute [push_cast] ti3 ti4 ti5 ti9 ti22 ti23 ti25 ti26 ti28 ti40 ti48 ti49 ti63 ti67 ti69 ti86 ti94 ti107 ti117 ti121 ti125 ti147 ti151 ti158 ti163 ti175 ti192 ti204 ok14 ok15 ok16 ok20 ok25 ok27 ok28 ok31 ok35 ok37 ok38 ok39 ok43 ok50 ok51 ok54 ok56 ok58 ok59 ok63 ok64 ok67 ok68 ok69 ok70 ok71 ok72 ok74 ok75 ok76 ok78 ok83 ok84 ok85 ok86 ok87 ok89 ok90 ok91 ok92 ok93 ok94 ok101 ok102 ok103 ok108 ok109 ok110 ok111 ok112 ok114 ok115 ok116 ok117 ok118 ok119 ok120 ok121 ok124 ok125 ok126 ok127 ok128 ok129 ok130 ok131 ok132 ok133 ok134 ok135 ok139 ok142 ok143 ok144 ok145 ok146 ok147 ok148 ok149 ok150 ok151 ok152 ok153 ok154 ok155 ok166 ok167 ok168 ok169 ok170 ok171 ok173 ok174 ok175 ok176 ok177 ok178 nk184 ok187 ok188 ok189 ok200 ok201
end Ab
set_option maxRecDepth 10000
namespace Ab
open Go Go.Proofs
inductive Term where
  | mk (name : List UInt8) (var : Bool) (args : List Term)
def Term.name : Term → List UInt8 | .mk n _ _ => n
def Term.var : Term → Bool | .mk _ v _ => v
def Term.args : Term → List Term | .mk _ _ a => a
def encTs : List Term → List AV
  | [] => []
  | .mk n v xs :: r => .agg [.str n, .bool v, .sl .none (encTs xs)] :: encTs r
@[reducible] def encT (t : Term) : AV := .agg [.str t.name, .bool t.var, .sl .none (encTs t.args)]
theorem encTs_cons (a : Term) (r : List Term) : encTs (a :: r) = encT a :: encTs r := by cases a; simp only [encTs]; rfl
theorem encTs_map : ∀ l : List Term, encTs l = l.map encT
  | [] => by simp [encTs]
  | a :: r => by rw [encTs_cons, encTs_map r]; rfl
theorem encTs_length (l : List Term) : (encTs l).length = l.length := by rw [encTs_map]; simp
theorem encTs_get (l : List Term) (i : Nat) (h : i < (encTs l).length) : (encTs l)[i] = encT (l[i]'(by rw [encTs_length] at h; exact h)) := by simp [encTs_map]
theorem uni_encTs (l : List Term) : Uni 3 (encTs l) := by
  intro x hx
  obtain ⟨i, hi, rfl⟩ := List.getElem_of_mem hx
  rw [encTs_get]; rfl
theorem scoped_encTs (n : Nat) : ∀ l : List Term, ScopedL n (encTs l)
  | [] => by simp [encTs, ScopedL]
  | .mk nm v xs :: r => by
    have h1 := scoped_encTs n xs
    have h2 := scoped_encTs n r
    simp [encTs, ScopedL, Scoped, h1, h2]
theorem cell_encTs (l : List Term) : ∀ c, c ∈ flat (encTs l) → c.isCell = true := by
  intro c hc
  unfold flat at hc
  rw [List.mem_flatMap] at hc
  obtain ⟨a, ha, hc⟩ := hc
  rw [encTs_map, List.mem_map] at ha
  obtain ⟨t, _, rfl⟩ := ha
  simp [AV.cells] at hc
  rcases hc with rfl | rfl | rfl <;> rfl
theorem Term.ind {p : Term → Prop} (h : ∀ n v xs, (∀ x, x ∈ xs → p x) → p (.mk n v xs)) : ∀ t, p t
  | .mk n v xs => h n v xs (fun x hx => Term.ind h x)
def Term.size : Term → Nat
  | .mk _ _ xs => 1 + (xs.map Term.size).sum
theorem Term.size_mk (n : List UInt8) (v : Bool) (xs : List Term) : (Term.mk n v xs).size = 1 + (xs.map Term.size).sum := by simp [Term.size]
theorem Term.size_pos : ∀ t : Term, 1 ≤ t.size | .mk n v xs => by rw [Term.size_mk]; omega
def Term.depth : Term → Nat
  | .mk _ _ xs => (xs.map Term.depth).foldl max 0 + 1
theorem Term.depth_mk (n : List UInt8) (v : Bool) (xs : List Term) : (Term.mk n v xs).depth = (xs.map Term.depth).foldl max 0 + 1 := by simp [Term.depth]
theorem take_sum {α : Type} (f : α → Nat) (xs : List α) (i : Nat) (h : i < xs.length) : ((xs.take (i + 1)).map f).sum = ((xs.take i).map f).sum + f xs[i] := by
  rw [List.take_succ_eq_append_getElem h, List.map_append, List.sum_append]; simp
theorem take_sum_le {α : Type} (f : α → Nat) : ∀ (xs : List α) (i : Nat), ((xs.take i).map f).sum ≤ (xs.map f).sum
  | [], i => by simp
  | a :: r, 0 => by simp
  | a :: r, i + 1 => by have := take_sum_le f r i; simp only [List.take_succ_cons, List.map_cons, List.sum_cons]; omega
theorem le_sum {α : Type} (f : α → Nat) : ∀ (xs : List α) (x : α), x ∈ xs → f x ≤ (xs.map f).sum
  | a :: r, x, h => by
    rcases List.mem_cons.1 h with rfl | h
    · simp
    · have := le_sum f r x h; simp; omega
theorem len_le_sum (xs : List Term) : xs.length ≤ (xs.map Term.size).sum := by
  induction xs with
  | nil => simp
  | cons a r ih => have := a.size_pos; simp; omega
theorem foldl_max_le (f : Term → Nat) : ∀ (xs : List Term) (b : Nat), (xs.map f).foldl max b ≤ max b (xs.map f).sum
  | [], b => by simp
  | a :: r, b => by have := foldl_max_le f r (max b (f a)); simp only [List.map_cons, List.foldl_cons, List.sum_cons]; omega
theorem Term.depth_le (t : Term) : t.depth ≤ t.size := by
  refine Term.ind (p := fun t => t.depth ≤ t.size) (fun n v xs ih => ?_) t
  rw [Term.depth_mk, Term.size_mk]
  have h1 := foldl_max_le Term.depth xs 0
  have h2 : (xs.map Term.depth).sum ≤ (xs.map Term.size).sum := by
    clear h1
    induction xs with
    | nil => simp
    | cons a r ih2 =>
      have := ih a (by simp)
      have := ih2 (fun x hx => ih x (by simp [hx]))
      simp; omega
  omega
theorem any_take_false {α : Type} {p : α → Bool} {xs : List α} {i : Nat} (h : (xs.take i).any p = false) (hi : i < xs.length) (hp : p xs[i] = false) : (xs.take (i + 1)).any p = false := by
  rw [List.take_succ_eq_append_getElem hi, List.any_append, h]; simp [hp]
theorem any_get {α : Type} {p : α → Bool} {xs : List α} {i : Nat} (hi : i < xs.length) (hp : p xs[i] = true) : xs.any p = true := List.any_eq_true.2 ⟨xs[i], List.getElem_mem hi, hp⟩
theorem all_take_true {α : Type} {p : α → Bool} {xs : List α} {i : Nat} (h : (xs.take i).all p = true) (hi : i < xs.length) (hp : p xs[i] = true) : (xs.take (i + 1)).all p = true := by
  rw [List.take_succ_eq_append_getElem hi, List.all_append, h]; simp [hp]
theorem all_get {α : Type} {p : α → Bool} {xs : List α} {i : Nat} (hi : i < xs.length) (hp : p xs[i] = false) : xs.all p = false := by
  rw [Bool.eq_false_iff]; intro h; rw [List.all_eq_true] at h; rw [h _ (List.getElem_mem hi)] at hp; cases hp
def Term.bulk : Term → Nat
  | .mk n _ xs => 1 + n.length + (xs.map Term.bulk).sum
theorem Term.bulk_mk (n : List UInt8) (v : Bool) (xs : List Term) : (Term.mk n v xs).bulk = 1 + n.length + (xs.map Term.bulk).sum := by simp [Term.bulk]
theorem Term.size_le (t : Term) : t.size ≤ t.bulk := by
  refine Term.ind (p := fun t => t.size ≤ t.bulk) (fun n v xs ih => ?_) t
  rw [Term.bulk_mk, Term.size_mk]
  have h2 : (xs.map Term.size).sum ≤ (xs.map Term.bulk).sum := by
    induction xs with
    | nil => simp
    | cons a r ih2 =>
      have := ih a (by simp)
      have := ih2 (fun x hx => ih x (by simp [hx]))
      simp; omega
  omega
theorem Term.arg_le {n : List UInt8} {v : Bool} {xs : List Term} {x : Term} (h : x ∈ xs) : x.bulk < (Term.mk n v xs).bulk := by
  have := le_sum Term.bulk xs x h
  rw [Term.bulk_mk]; omega
theorem Term.len_le {n : List UInt8} {v : Bool} {xs : List Term} : xs.length < (Term.mk n v xs).bulk := by
  have h1 := len_le_sum xs
  have h2 := (Term.mk n v xs).size_le
  rw [Term.size_mk] at h2; omega
theorem Term.name_le {n : List UInt8} {v : Bool} {xs : List Term} : n.length < (Term.mk n v xs).bulk := by rw [Term.bulk_mk]; omega
def encL {α : Type} (enc : α → AV) (xs : List α) : List AV := xs.map enc
theorem encL_length {α : Type} (enc : α → AV) (xs : List α) : (encL enc xs).length = xs.length := by simp [encL]
theorem encL_get {α : Type} (enc : α → AV) (xs : List α) (i : Nat) (h : i < (encL enc xs).length) : (encL enc xs)[i] = enc (xs[i]'(by rw [encL_length] at h; exact h)) := by simp [encL]
theorem scoped_encL {α : Type} {enc : α → AV} {n : Nat} (h : ∀ x, Scoped n (enc x)) (xs : List α) : ScopedL n (encL enc xs) := ScopedL_iff.2 fun v hv => by
  simp [encL] at hv; obtain ⟨x, _, rfl⟩ := hv; exact h x
theorem uni_encL {α : Type} {enc : α → AV} {k : Nat} (h : ∀ x, (enc x).cells.length = k) (xs : List α) : Uni k (encL enc xs) := by
  intro x hx; simp [encL] at hx; obtain ⟨b, _, rfl⟩ := hx; exact h b
def inName (c : Int) : Bool := decide (97 ≤ c) && decide (c ≤ 122) || decide (65 ≤ c) && decide (c ≤ 90) || decide (48 ≤ c) && decide (c ≤ 57) || decide (c = 95) || decide (c = 39)
def inNameB (c : UInt8) : Bool := inName c.toNat
def trimSuffix (s suf : List UInt8) : List UInt8 := if suf.length ≤ s.length ∧ s.drop (s.length - suf.length) = suf then s.take (s.length - suf.length) else s
def isNameP (s : List UInt8) (marked : Bool) : Bool :=
  decide (s.length ≤ 24) && (let s' := if marked then trimSuffix s [35] else s; decide (s' ≠ []) && !s'.any fun c => !inNameB c)
def encB (s : List UInt8) : List AV := s.map fun b => .int .u8 b.toNat
theorem encB_length (s : List UInt8) : (encB s).length = s.length := by simp [encB]
theorem encB_get (s : List UInt8) (i : Nat) (h : i < (encB s).length) : (encB s)[i] = .int .u8 ((s[i]'(by rw [encB_length] at h; exact h)).toNat) := by simp [encB]
theorem scoped_encB (n : Nat) (s : List UInt8) : ScopedL n (encB s) := ScopedL_iff.2 fun v hv => by
  simp [encB] at hv; obtain ⟨b, _, rfl⟩ := hv; simp [Scoped]
theorem uni_encB (s : List UInt8) : Uni 1 (encB s) := by
  intro x hx; simp [encB] at hx; obtain ⟨b, _, rfl⟩ := hx; rfl
def formedP : Term → Bool
  | .mk n v xs => if v then decide (xs.length = 0) && isNameP n false else decide (xs.length ≤ 8) && isNameP n true && (xs.map formedP).all id
theorem formedP_mk (n : List UInt8) (v : Bool) (xs : List Term) : formedP (.mk n v xs) = if v then decide (xs.length = 0) && isNameP n false else decide (xs.length ≤ 8) && isNameP n true && xs.all formedP := by
  rw [formedP, List.all_map]; rfl
def fitsP (t : Term) : Bool := decide (t.size ≤ 4000) && decide (t.depth ≤ 200)
def checkP (t : Term) : Int := if !formedP t then 4 else if !fitsP t then 3 else 0
def firstErr : List Term → Int
  | [] => 0
  | t :: r => if checkP t = 0 then firstErr r else checkP t
def eqTs : List Term → List Term → Bool
  | [], [] => true
  | .mk n v xs :: r, .mk m u ys :: r' => decide (n = m) && (v == u) && (eqTs xs ys && eqTs r r')
  | _, _ => false
theorem eqTs_iff : ∀ xs ys : List Term, eqTs xs ys = true ↔ xs = ys
  | [], [] => by simp [eqTs]
  | [], _ :: _ => by simp [eqTs]
  | .mk _ _ _ :: _, [] => by simp [eqTs]
  | .mk n v xs :: r, .mk m u ys :: r' => by
    have h1 := eqTs_iff xs ys
    have h2 := eqTs_iff r r'
    simp [eqTs, h1, h2, and_assoc]
instance : DecidableEq Term := fun a b => decidable_of_iff (eqTs [a] [b] = true) (by rw [eqTs_iff]; simp)
attribute [push_cast] encL_length encL_get List.take_length encTs_get encTs_length scoped_encTs encB_length encB_get scoped_encB
end Ab
namespace Ab
open Go Go.Proofs
set_option linter.unusedVariables false
theorem uniT (l : List Term) : Uni (2 + 1) (encTs l) = True := eq_true (uni_encTs l)
theorem uniB (s : List UInt8) : Uni (0 + 1) (encB s) = True := eq_true (uni_encB s)
theorem encTs_append (a b : List Term) : encTs (a ++ b) = encTs a ++ encTs b := by simp [encTs_map]
theorem encTs_nil : encTs [] = [] := by simp [encTs]
theorem encTs_one (a : Term) : encTs [a] = [encT a] := by rw [encTs_cons]; simp [encTs]
theorem encL_append {α : Type} (enc : α → AV) (xs ys : List α) : encL enc (xs ++ ys) = encL enc xs ++ encL enc ys := by simp [encL]
theorem encL_take {α : Type} (enc : α → AV) (xs : List α) (i : Nat) : (encL enc xs).take i = encL enc (xs.take i) := by simp [encL]
theorem encL_drop {α : Type} (enc : α → AV) (xs : List α) (i : Nat) : (encL enc xs).drop i = encL enc (xs.drop i) := by simp [encL]
theorem encL_nil {α : Type} (enc : α → AV) : encL enc [] = [] := rfl
theorem encB_fold (s : List UInt8) : (s.map fun b => AV.int .u8 b.toNat) = encB s := rfl
section
variable {P : Program} {ro : Option Nat} {st : ASt} {dst : Option Tmp} {ty : TypeId} {pos : String} {after : Array Edge} {guard : Option (Nat × Bool)} {K : AV → List AObj → Prop}
theorem app_T {t e by_ : Nat} {s x : Operand} (zs : List Value) (k : Nat) (xs ys : List Term) (tk : Tok) (hs : st.opd s = gSl k (encTs xs)) (hx : st.opd x = .sl tk (encTs ys)) (hh : st.heap[k]? = some (gTok e 3 (encTs xs)))
    (ht : SliceT P t e) (hsz : SzOf P e 3) (hby : BytesOf P e by_) (hz : ZeroOf P e zs) (hz0 : zs.length = 3) (hb : by_ ≤ 100) (hl : xs.length + ys.length ≤ 1099511627776)
    (k' : K (gSl k (encTs (xs ++ ys))) (st.heap.set k (gTok e 3 (encTs (xs ++ ys))))) :
    AOp P ro ⟨dst, .call { callee := .builtin .append, args := #[s, x], argTypes := #[t, t] }, ty, pos, after, guard⟩ K st := by
  rw [encTs_append] at k'
  have h1 : (xs.length + ys.length) * by_ ≤ 1099511627776 * 100 := Nat.mul_le_mul hl hb
  exact AOp_append_G zs k (encTs xs) (encTs ys) tk hs hx hh ht hsz hby hz hz0 (by decide) (uni_encTs _) (uni_encTs _) (cell_encTs _) (by rw [encTs_length, encTs_length]; omega) (by rw [encTs_length, encTs_length]; omega) k'
theorem app1_T {t e by_ : Nat} {s x : Operand} (zs : List Value) (k : Nat) (xs : List Term) (y : Term) (tk : Tok) (hs : st.opd s = gSl k (encTs xs)) (hx : st.opd x = .sl tk [encT y]) (hh : st.heap[k]? = some (gTok e 3 (encTs xs)))
    (ht : SliceT P t e) (hsz : SzOf P e 3) (hby : BytesOf P e by_) (hz : ZeroOf P e zs) (hz0 : zs.length = 3) (hb : by_ ≤ 100) (hl : xs.length < 1099511627776)
    (k' : K (gSl k (encTs (xs ++ [y]))) (st.heap.set k (gTok e 3 (encTs (xs ++ [y]))))) :
    AOp P ro ⟨dst, .call { callee := .builtin .append, args := #[s, x], argTypes := #[t, t] }, ty, pos, after, guard⟩ K st :=
  app_T zs k xs [y] tk hs (by rw [encTs_one]; exact hx) hh ht hsz hby hz hz0 hb (by simp only [List.length_cons, List.length_nil]; omega) k'
theorem cells_encL {α : Type} {enc : α → AV} (hc : ∀ x c, c ∈ (enc x).cells → c.isCell = true) (l : List α) : ∀ c, c ∈ flat (encL enc l) → c.isCell = true := by
  intro c h
  unfold flat encL at h
  rw [List.mem_flatMap] at h
  obtain ⟨a, ha, h⟩ := h
  rw [List.mem_map] at ha
  obtain ⟨x, _, rfl⟩ := ha
  exact hc x c h
theorem app_L {α : Type} (enc : α → AV) {t e by_ sz : Nat} {s x : Operand} (hu : ∀ x, (enc x).cells.length = sz) (hc : ∀ x c, c ∈ (enc x).cells → c.isCell = true) (zs : List Value) (k : Nat) (xs ys : List α) (tk : Tok) (hs : st.opd s = gSl k (encL enc xs)) (hx : st.opd x = .sl tk (encL enc ys)) (hh : st.heap[k]? = some (gTok e sz (encL enc xs)))
    (ht : SliceT P t e) (hsz : SzOf P e sz) (hby : BytesOf P e by_) (hz : ZeroOf P e zs) (hz0 : zs.length = sz) (h0 : 0 < sz) (hb : by_ ≤ 100) (hl : xs.length + ys.length ≤ 1099511627776)
    (k' : K (gSl k (encL enc (xs ++ ys))) (st.heap.set k (gTok e sz (encL enc (xs ++ ys))))) :
    AOp P ro ⟨dst, .call { callee := .builtin .append, args := #[s, x], argTypes := #[t, t] }, ty, pos, after, guard⟩ K st := by
  rw [encL_append] at k'
  have h1 : (xs.length + ys.length) * by_ ≤ 1099511627776 * 100 := Nat.mul_le_mul hl hb
  exact AOp_append_G zs k (encL enc xs) (encL enc ys) tk hs hx hh ht hsz hby hz hz0 h0 (uni_encL hu _) (uni_encL hu _) (cells_encL hc _) (by rw [encL_length, encL_length]; omega) (by rw [encL_length, encL_length]; omega) k'
theorem app1_L {α : Type} (enc : α → AV) {t e by_ sz : Nat} {s x : Operand} (hu : ∀ x, (enc x).cells.length = sz) (hc : ∀ x c, c ∈ (enc x).cells → c.isCell = true) (zs : List Value) (k : Nat) (xs : List α) (y : α) (tk : Tok) (hs : st.opd s = gSl k (encL enc xs)) (hx : st.opd x = .sl tk [enc y]) (hh : st.heap[k]? = some (gTok e sz (encL enc xs)))
    (ht : SliceT P t e) (hsz : SzOf P e sz) (hby : BytesOf P e by_) (hz : ZeroOf P e zs) (hz0 : zs.length = sz) (h0 : 0 < sz) (hb : by_ ≤ 100) (hl : xs.length < 1099511627776)
    (k' : K (gSl k (encL enc (xs ++ [y]))) (st.heap.set k (gTok e sz (encL enc (xs ++ [y]))))) :
    AOp P ro ⟨dst, .call { callee := .builtin .append, args := #[s, x], argTypes := #[t, t] }, ty, pos, after, guard⟩ K st :=
  app_L enc hu hc zs k xs [y] tk hs hx hh ht hsz hby hz hz0 h0 hb (by simp only [List.length_cons, List.length_nil]; omega) k'
end
theorem sub1N (a : Nat) : ((a : Int) - 1).toNat = a - 1 := by omega
theorem subN (a b : Nat) : ((a : Int) - (b : Int)).toNat = a - b := by omega
attribute [push_cast] Nat.add_sub_cancel List.getElem_cons_zero List.getElem_cons_succ encB_fold encT uniT uniB encL_take encL_drop encL_nil encTs_nil encTs_one sub1N subN
end Ab
set_option maxRecDepth 10000
namespace Ab
open Go Go.Proofs
theorem inName_ac (c : Int) (H : List AObj) : ACall Tryz.prog 149 [.int .u8 c] H (fun r H' => r = .bool (inName c) ∧ H' = H) := by
  refine ACall_W (H.length) 32 [.tmp 2] Tryz.func149 rfl rfl rfl ?_
  simp only [push_cast, Nat.reduceAdd, Nat.reduceSub, Nat.reduceMul, Nat.reduceLT, Nat.reduceLeDiff, Nat.reduceEqDiff, Int.reduceToNat, ↓reduceIte]
  unfold inName
  repeat' first | refine ⟨by omega, ?_⟩ | refine cI (fun _ => ?_) (fun _ => ?_)
  all_goals (rw [Bool.eq_iff_iff]; simp; omega)
theorem isName1_ac (c : Int) (H : List AObj) : ACall Tryz.prog 148 [.int .u8 c] H (fun r H' => r = .bool (!inName c) ∧ H' = H) := by
  refine ACall_W (H.length) 5 [.tmp 2] Tryz.func148 rfl rfl rfl ?_
  simp only [push_cast, Nat.reduceAdd, Nat.reduceSub, Nat.reduceMul, Nat.reduceLT, Nat.reduceLeDiff, Nat.reduceEqDiff, Int.reduceToNat, ↓reduceIte]
  refine (inName_ac c _).to ?_
  simp only [push_cast, Nat.reduceAdd, Nat.reduceSub, Nat.reduceMul, Nat.reduceLT, Nat.reduceLeDiff, Nat.reduceEqDiff, Int.reduceToNat, ↓reduceIte]
theorem indexB_ac (s : List UInt8) (g : Nat) (caps : List AV) (p : UInt8 → Bool) (H : List AObj) (hlen : s.length < 1099511627776) (hg : callOk Tryz.prog g = true) (hsc : ScopedL H.length caps)
    (hf : ∀ i (h : i < s.length), ACall Tryz.prog g (.int .u8 (s[i]).toNat :: caps) H (fun r H' => r = .bool (p s[i]) ∧ H' = H)) :
    ACall Tryz.prog 175 [.sl .none (encB s), .fn g caps] H (fun r H' => ∃ n : Int, r = .int .i64 n ∧ (0 ≤ n ↔ s.any p = true) ∧ H' = H) := by
  refine ACall_W (H.length) 17 [.tmp 4] Tryz.func175 rfl rfl rfl ?_
  simp only [push_cast, Nat.reduceAdd, Nat.reduceSub, Nat.reduceMul, Nat.reduceLT, Nat.reduceLeDiff, Nat.reduceEqDiff, Int.reduceToNat, ↓reduceIte]
  refine AW_loopW (maskG 19 [0, 0, 5, 0]) (fun (i : Nat) => [(8, .int .i64 i)]) (fun _ => H) (fun i => i ≤ s.length ∧ (s.take i).any p = false) (fun i => s.length - i) 0 ⟨Nat.zero_le _, by simp⟩ (by simp only [push_cast, Nat.reduceAdd, Nat.reduceSub, Nat.reduceMul, Nat.reduceLT, Nat.reduceLeDiff, Nat.reduceEqDiff, Int.reduceToNat, ↓reduceIte, hsc]) (fun i hi => ?_)
  simp only [push_cast, Nat.reduceAdd, Nat.reduceSub, Nat.reduceMul, Nat.reduceLT, Nat.reduceLeDiff, Nat.reduceEqDiff, Int.reduceToNat, ↓reduceIte, hg]
  refine cI (fun h => ⟨by omega, (hf i (by omega)).to ?_⟩) (fun h => ?_)
  · simp only [push_cast, Nat.reduceAdd, Nat.reduceSub, Nat.reduceMul, Nat.reduceLT, Nat.reduceLeDiff, Nat.reduceEqDiff, Int.reduceToNat, ↓reduceIte]
    refine cI (fun hp => ?_) (fun hp => ⟨by omega, loopW_n (i + 1) ⟨by omega, any_take_false hi.2 (by omega) (by simpa using hp)⟩ (by omega) (by simp only [push_cast, Nat.reduceAdd, Nat.reduceSub, Nat.reduceMul, Nat.reduceLT, Nat.reduceLeDiff, Nat.reduceEqDiff, Int.reduceToNat, ↓reduceIte, hsc])⟩)
    exact ⟨i, rfl, ⟨fun _ => any_get (by omega) hp, fun _ => by omega⟩⟩
  · have hs : s.take i = s := List.take_of_length_le (by omega)
    rw [hs] at hi
    exact ⟨-1, rfl, ⟨by omega, fun h => by rw [hi.2] at h; cases h⟩⟩
theorem containsB_ac (s : List UInt8) (g : Nat) (caps : List AV) (p : UInt8 → Bool) (H : List AObj) (hlen : s.length < 1099511627776) (hg : callOk Tryz.prog g = true) (hsc : ScopedL H.length caps)
    (hf : ∀ i (h : i < s.length), ACall Tryz.prog g (.int .u8 (s[i]).toNat :: caps) H (fun r H' => r = .bool (p s[i]) ∧ H' = H)) :
    ACall Tryz.prog 147 [.sl .none (encB s), .fn g caps] H (fun r H' => r = .bool (s.any p) ∧ H' = H) := by
  refine ACall_W (H.length) 7 [.tmp 4] Tryz.func147 rfl rfl rfl ?_
  simp only [push_cast, Nat.reduceAdd, Nat.reduceSub, Nat.reduceMul, Nat.reduceLT, Nat.reduceLeDiff, Nat.reduceEqDiff, Int.reduceToNat, ↓reduceIte]
  refine (indexB_ac _ g caps p _ hlen hg hsc hf).mono ?_
  rintro r H ⟨n, rfl, hn, rfl⟩
  simp only [push_cast, Nat.reduceAdd, Nat.reduceSub, Nat.reduceMul, Nat.reduceLT, Nat.reduceLeDiff, Nat.reduceEqDiff, Int.reduceToNat, ↓reduceIte, hn]
  cases s.any p <;> simp
theorem hasSuffix_ac (s suf : List UInt8) (H : List AObj) (h1 : s.length < 1099511627776) (h2 : suf.length < 1099511627776) :
    ACall Tryz.prog 168 [.str s, .str suf] H (fun r H' => r = .bool (decide (suf.length ≤ s.length ∧ s.drop (s.length - suf.length) = suf)) ∧ H' = H) := by
  refine ACall_W (H.length) 19 [.tmp 4] Tryz.func168 rfl rfl rfl ?_
  simp only [push_cast, Nat.reduceAdd, Nat.reduceSub, Nat.reduceMul, Nat.reduceLT, Nat.reduceLeDiff, Nat.reduceEqDiff, Int.reduceToNat, ↓reduceIte]
  have e : (s.drop (s.length - suf.length)).take (s.length - (s.length - suf.length)) = s.drop (s.length - suf.length) := List.take_of_length_le (by simp)
  repeat' first | refine ⟨by omega, ?_⟩ | refine cI (fun _ => ?_) (fun _ => ?_)
  · simp only [push_cast, Nat.reduceAdd, Nat.reduceSub, Nat.reduceMul, Nat.reduceLT, Nat.reduceLeDiff, Nat.reduceEqDiff, Int.reduceToNat, ↓reduceIte, e]; simp; omega
  · simp; omega
theorem trimSuffix_ac (s suf : List UInt8) (H : List AObj) (h1 : s.length < 1099511627776) (h2 : suf.length < 1099511627776) :
    ACall Tryz.prog 174 [.str s, .str suf] H (fun r H' => r = .str (trimSuffix s suf) ∧ H' = H) := by
  refine ACall_W (H.length) 14 [.tmp 4] Tryz.func174 rfl rfl rfl ?_
  simp only [push_cast, Nat.reduceAdd, Nat.reduceSub, Nat.reduceMul, Nat.reduceLT, Nat.reduceLeDiff, Nat.reduceEqDiff, Int.reduceToNat, ↓reduceIte]
  refine (hasSuffix_ac s suf _ h1 h2).to ?_
  simp only [push_cast, Nat.reduceAdd, Nat.reduceSub, Nat.reduceMul, Nat.reduceLT, Nat.reduceLeDiff, Nat.reduceEqDiff, Int.reduceToNat, ↓reduceIte]
  unfold trimSuffix
  refine cI (fun h => ?_) (fun h => ?_)
  · repeat' first | refine ⟨by omega, ?_⟩ | refine cI (fun _ => ?_) (fun _ => ?_)
    simp [h]
  · simp [h]
theorem trimSuffix'_ac (s suf : List UInt8) (H : List AObj) (h1 : s.length < 1099511627776) (h2 : suf.length < 1099511627776) :
    ACall Tryz.prog 146 [.str s, .str suf] H (fun r H' => r = .str (trimSuffix s suf) ∧ H' = H) := by
  refine ACall_W (H.length) 6 [.tmp 4] Tryz.func146 rfl rfl rfl ?_
  simp only [push_cast, Nat.reduceAdd, Nat.reduceSub, Nat.reduceMul, Nat.reduceLT, Nat.reduceLeDiff, Nat.reduceEqDiff, Int.reduceToNat, ↓reduceIte]
  refine (trimSuffix_ac s suf _ h1 h2).to ?_
  simp only [push_cast, Nat.reduceAdd, Nat.reduceSub, Nat.reduceMul, Nat.reduceLT, Nat.reduceLeDiff, Nat.reduceEqDiff, Int.reduceToNat, ↓reduceIte]
theorem trimSuffix_length (s suf : List UInt8) : (trimSuffix s suf).length ≤ s.length := by
  unfold trimSuffix; split <;> simp
theorem isName_ac (s : List UInt8) (m : Bool) (H : List AObj) (h1 : s.length < 1099511627776) :
    ACall Tryz.prog 114 [.str s, .bool m] H (fun r H' => r = .bool (isNameP s m) ∧ H' = H) := by
  have hl := trimSuffix_length s [35]
  refine ACall_W (H.length) 17 [.tmp 4] Tryz.func114 rfl rfl rfl ?_
  simp only [push_cast, Nat.reduceAdd, Nat.reduceSub, Nat.reduceMul, Nat.reduceLT, Nat.reduceLeDiff, Nat.reduceEqDiff, Int.reduceToNat, ↓reduceIte]
  refine cI (fun h => ?_) (fun h => cI (fun hm => ?_) (fun hm => ?_))
  · have h24 : ¬ s.length ≤ 24 := by omega
    simp [isNameP, h24]
  · refine (trimSuffix'_ac s [35] _ h1 (by simp)).to ?_
    simp only [push_cast, Nat.reduceAdd, Nat.reduceSub, Nat.reduceMul, Nat.reduceLT, Nat.reduceLeDiff, Nat.reduceEqDiff, Int.reduceToNat, ↓reduceIte]
    refine cI (fun hs => ?_) (fun hs => ?_)
    · simp [isNameP, hm, hs]
    · refine AOp_convert_bytes _ rfl sl175 un5 un9 (by omega) ?_
      simp only [push_cast, Nat.reduceAdd, Nat.reduceSub, Nat.reduceMul, Nat.reduceLT, Nat.reduceLeDiff, Nat.reduceEqDiff, Int.reduceToNat, ↓reduceIte]
      refine (containsB_ac _ 148 [] (fun c => !inNameB c) _ (by omega) ok148 (by simp [ScopedL]) (fun i h => isName1_ac _ _)).to ?_
      simp only [push_cast, Nat.reduceAdd, Nat.reduceSub, Nat.reduceMul, Nat.reduceLT, Nat.reduceLeDiff, Nat.reduceEqDiff, Int.reduceToNat, ↓reduceIte]
      have h24 : s.length ≤ 24 := by omega
      simp [isNameP, hm, hs, h24]
  · refine cI (fun hs => ?_) (fun hs => ?_)
    · simp [isNameP, hm, hs]
    · refine AOp_convert_bytes _ rfl sl175 un5 un9 (by omega) ?_
      simp only [push_cast, Nat.reduceAdd, Nat.reduceSub, Nat.reduceMul, Nat.reduceLT, Nat.reduceLeDiff, Nat.reduceEqDiff, Int.reduceToNat, ↓reduceIte]
      refine (containsB_ac _ 148 [] (fun c => !inNameB c) _ (by omega) ok148 (by simp [ScopedL]) (fun i h => isName1_ac _ _)).to ?_
      simp only [push_cast, Nat.reduceAdd, Nat.reduceSub, Nat.reduceMul, Nat.reduceLT, Nat.reduceLeDiff, Nat.reduceEqDiff, Int.reduceToNat, ↓reduceIte]
      have h24 : s.length ≤ 24 := by omega
      simp [isNameP, hm, hs, h24]
end Ab
set_option maxRecDepth 10000
namespace Ab
open Go Go.Proofs
theorem arg_bulk {n : List UInt8} {v : Bool} {xs : List Term} {b : Nat} (hb : (Term.mk n v xs).bulk ≤ b) (i : Nat) (h : i < xs.length) : xs[i].bulk ≤ b := Nat.le_trans (Nat.le_of_lt (Term.arg_le (List.getElem_mem h))) hb
theorem take_depth (xs : List Term) (i : Nat) (h : i < xs.length) : ((xs.take (i + 1)).map Term.depth).foldl max 0 = max (((xs.take i).map Term.depth).foldl max 0) xs[i].depth := by
  rw [List.take_succ_eq_append_getElem h, List.map_append, List.foldl_append]; simp
theorem Term.mk_name (n : List UInt8) (v : Bool) (xs : List Term) : (Term.mk n v xs).name = n := rfl
theorem Term.mk_var (n : List UInt8) (v : Bool) (xs : List Term) : (Term.mk n v xs).var = v := rfl
theorem Term.mk_args (n : List UInt8) (v : Bool) (xs : List Term) : (Term.mk n v xs).args = xs := rfl
attribute [push_cast] Term.mk_name Term.mk_var Term.mk_args
theorem size_ac (t : Term) : t.bulk ≤ 1099511627776 → ∀ H, ACall Tryz.prog 144 [encT t] H (fun r H' => r = .int .i64 t.size ∧ H' = H) := by
  induction t using Term.ind with | _ n v xs ih
  intro hb H
  have hs := (Term.mk n v xs).size_le
  have hlen := Term.len_le (n := n) (v := v) (xs := xs)
  rw [Term.size_mk] at hs ⊢
  refine ACall_W (H.length) 18 [.tmp 2] Tryz.func144 rfl rfl rfl ?_
  simp only [push_cast, Nat.reduceAdd, Nat.reduceSub, Nat.reduceMul, Nat.reduceLT, Nat.reduceLeDiff, Nat.reduceEqDiff, Int.reduceToNat, ↓reduceIte]
  refine AW_loopW (maskG 19 [3, 3, 0, 0]) (fun (i : Nat) => [(9, .int .i64 i), (3, .int .i64 (1 + ((xs.take i).map Term.size).sum : Nat))]) (fun _ => H) (fun i => i ≤ xs.length) (fun i => xs.length - i) 0 (Nat.zero_le _) (by simp only [push_cast, Nat.reduceAdd, Nat.reduceSub, Nat.reduceMul, Nat.reduceLT, Nat.reduceLeDiff, Nat.reduceEqDiff, Int.reduceToNat, ↓reduceIte]; simp) (fun i hi => ?_)
  simp only [push_cast, Nat.reduceAdd, Nat.reduceSub, Nat.reduceMul, Nat.reduceLT, Nat.reduceLeDiff, Nat.reduceEqDiff, Int.reduceToNat, ↓reduceIte]
  refine cI (fun h => ⟨by omega, (ih _ (List.getElem_mem _) (arg_bulk hb i (by omega)) _).to ?_⟩) (fun h => ?_)
  · have e := take_sum Term.size xs i (by omega)
    have hle := take_sum_le Term.size xs (i + 1)
    simp only [push_cast, Nat.reduceAdd, Nat.reduceSub, Nat.reduceMul, Nat.reduceLT, Nat.reduceLeDiff, Nat.reduceEqDiff, Int.reduceToNat, ↓reduceIte]
    repeat' first | refine ⟨by omega, ?_⟩ | refine cI (fun _ => ?_) (fun _ => ?_)
    exact loopW_n (i + 1) (by omega) (by omega) (by simp only [push_cast, Nat.reduceAdd, Nat.reduceSub, Nat.reduceMul, Nat.reduceLT, Nat.reduceLeDiff, Nat.reduceEqDiff, Int.reduceToNat, ↓reduceIte]; omega)
  · simp only [push_cast, Nat.reduceAdd, Nat.reduceSub, Nat.reduceMul, Nat.reduceLT, Nat.reduceLeDiff, Nat.reduceEqDiff, Int.reduceToNat, ↓reduceIte, List.take_of_length_le (show xs.length ≤ i by omega)]
theorem depth_ac (t : Term) : t.bulk ≤ 1099511627776 → ∀ H, ACall Tryz.prog 145 [encT t] H (fun r H' => r = .int .i64 t.depth ∧ H' = H) := by
  induction t using Term.ind with | _ n v xs ih
  intro hb H
  have hs := (Term.mk n v xs).size_le
  have hd := (Term.mk n v xs).depth_le
  have hlen := Term.len_le (n := n) (v := v) (xs := xs)
  rw [Term.depth_mk] at hd ⊢
  refine ACall_W (H.length) 19 [.tmp 2] Tryz.func145 rfl rfl rfl ?_
  simp only [push_cast, Nat.reduceAdd, Nat.reduceSub, Nat.reduceMul, Nat.reduceLT, Nat.reduceLeDiff, Nat.reduceEqDiff, Int.reduceToNat, ↓reduceIte]
  refine AW_loopW (maskG 20 [3, 3, 0, 0]) (fun (i : Nat) => [(9, .int .i64 i), (3, .int .i64 (((xs.take i).map Term.depth).foldl max 0 : Nat))]) (fun _ => H) (fun i => i ≤ xs.length ∧ ((xs.take i).map Term.depth).foldl max 0 ≤ 1099511627776) (fun i => xs.length - i) 0 ⟨Nat.zero_le _, by simp⟩ (by simp only [push_cast, Nat.reduceAdd, Nat.reduceSub, Nat.reduceMul, Nat.reduceLT, Nat.reduceLeDiff, Nat.reduceEqDiff, Int.reduceToNat, ↓reduceIte]; simp) (fun i hi => ?_)
  simp only [push_cast, Nat.reduceAdd, Nat.reduceSub, Nat.reduceMul, Nat.reduceLT, Nat.reduceLeDiff, Nat.reduceEqDiff, Int.reduceToNat, ↓reduceIte]
  refine cI (fun h => ⟨by omega, (ih _ (List.getElem_mem _) (arg_bulk hb i (by omega)) _).to ?_⟩) (fun h => ?_)
  · have e := take_depth xs i (by omega)
    have hdx := (xs[i]'(by omega)).depth_le
    have hsx := (xs[i]'(by omega)).size_le
    have hbx := arg_bulk hb i (by omega)
    simp only [push_cast, Nat.reduceAdd, Nat.reduceSub, Nat.reduceMul, Nat.reduceLT, Nat.reduceLeDiff, Nat.reduceEqDiff, Int.reduceToNat, ↓reduceIte]
    repeat' first | refine ⟨by omega, ?_⟩ | refine cI (fun _ => ?_) (fun _ => ?_)
    exact loopW_n (i + 1) (by omega) (by omega) (by simp only [push_cast, Nat.reduceAdd, Nat.reduceSub, Nat.reduceMul, Nat.reduceLT, Nat.reduceLeDiff, Nat.reduceEqDiff, Int.reduceToNat, ↓reduceIte]; omega)
  · simp only [push_cast, Nat.reduceAdd, Nat.reduceSub, Nat.reduceMul, Nat.reduceLT, Nat.reduceLeDiff, Nat.reduceEqDiff, Int.reduceToNat, ↓reduceIte, List.take_of_length_le (show xs.length ≤ i by omega)]
    omega
theorem indexT_ac (xs : List Term) (g : Nat) (caps : List AV) (p : Term → Bool) (H : List AObj) (hlen : xs.length < 1099511627776) (hg : callOk Tryz.prog g = true) (hsc : ScopedL H.length caps)
    (hf : ∀ i (h : i < xs.length), ACall Tryz.prog g (encT xs[i] :: caps) H (fun r H' => r = .bool (p xs[i]) ∧ H' = H)) :
    ACall Tryz.prog 76 [.sl .none (encTs xs), .fn g caps] H (fun r H' => ∃ n : Int, r = .int .i64 n ∧ (0 ≤ n ↔ xs.any p = true) ∧ H' = H) := by
  refine ACall_W (H.length) 17 [.tmp 4] Tryz.func76 rfl rfl rfl ?_
  simp only [push_cast, Nat.reduceAdd, Nat.reduceSub, Nat.reduceMul, Nat.reduceLT, Nat.reduceLeDiff, Nat.reduceEqDiff, Int.reduceToNat, ↓reduceIte]
  refine AW_loopW (maskG 19 [0, 0, 5, 0]) (fun (i : Nat) => [(8, .int .i64 i)]) (fun _ => H) (fun i => i ≤ xs.length ∧ (xs.take i).any p = false) (fun i => xs.length - i) 0 ⟨Nat.zero_le _, by simp⟩ (by simp only [push_cast, Nat.reduceAdd, Nat.reduceSub, Nat.reduceMul, Nat.reduceLT, Nat.reduceLeDiff, Nat.reduceEqDiff, Int.reduceToNat, ↓reduceIte, hsc]) (fun i hi => ?_)
  simp only [push_cast, Nat.reduceAdd, Nat.reduceSub, Nat.reduceMul, Nat.reduceLT, Nat.reduceLeDiff, Nat.reduceEqDiff, Int.reduceToNat, ↓reduceIte, hg]
  refine cI (fun h => ⟨by omega, (hf i (by omega)).to ?_⟩) (fun h => ?_)
  · simp only [push_cast, Nat.reduceAdd, Nat.reduceSub, Nat.reduceMul, Nat.reduceLT, Nat.reduceLeDiff, Nat.reduceEqDiff, Int.reduceToNat, ↓reduceIte]
    refine cI (fun hp => ?_) (fun hp => ⟨by omega, loopW_n (i + 1) ⟨by omega, any_take_false hi.2 (by omega) (by simpa using hp)⟩ (by omega) (by simp only [push_cast, Nat.reduceAdd, Nat.reduceSub, Nat.reduceMul, Nat.reduceLT, Nat.reduceLeDiff, Nat.reduceEqDiff, Int.reduceToNat, ↓reduceIte, hsc])⟩)
    exact ⟨i, rfl, ⟨fun _ => any_get (by omega) hp, fun _ => by omega⟩⟩
  · have hs : xs.take i = xs := List.take_of_length_le (by omega)
    rw [hs] at hi
    exact ⟨-1, rfl, ⟨by omega, fun h => by rw [hi.2] at h; cases h⟩⟩
theorem containsT_ac (xs : List Term) (g : Nat) (caps : List AV) (p : Term → Bool) (H : List AObj) (hlen : xs.length < 1099511627776) (hg : callOk Tryz.prog g = true) (hsc : ScopedL H.length caps)
    (hf : ∀ i (h : i < xs.length), ACall Tryz.prog g (encT xs[i] :: caps) H (fun r H' => r = .bool (p xs[i]) ∧ H' = H)) :
    ACall Tryz.prog 142 [.sl .none (encTs xs), .fn g caps] H (fun r H' => r = .bool (xs.any p) ∧ H' = H) := by
  refine ACall_W (H.length) 7 [.tmp 4] Tryz.func142 rfl rfl rfl ?_
  simp only [push_cast, Nat.reduceAdd, Nat.reduceSub, Nat.reduceMul, Nat.reduceLT, Nat.reduceLeDiff, Nat.reduceEqDiff, Int.reduceToNat, ↓reduceIte]
  refine (indexT_ac _ g caps p _ hlen hg hsc hf).mono ?_
  rintro r H ⟨n, rfl, hn, rfl⟩
  simp only [push_cast, Nat.reduceAdd, Nat.reduceSub, Nat.reduceMul, Nat.reduceLT, Nat.reduceLeDiff, Nat.reduceEqDiff, Int.reduceToNat, ↓reduceIte, hn]
  cases xs.any p <;> simp
theorem formed_ac (t : Term) : t.bulk ≤ 1099511627775 → ∀ H, ACall Tryz.prog 111 [encT t] H (fun r H' => r = .bool (formedP t) ∧ H' = H) := by
  induction t using Term.ind with | _ n v xs ih
  intro hb H
  have hlen := Term.len_le (n := n) (v := v) (xs := xs)
  have hnl := Term.name_le (n := n) (v := v) (xs := xs)
  have hcl : ∀ i (h : i < xs.length) H, ACall Tryz.prog 143 [encT xs[i]] H (fun r H' => r = .bool (!formedP xs[i]) ∧ H' = H) := by
    intro i h H
    refine ACall_W (H.length) 5 [.tmp 2] Tryz.func143 rfl rfl rfl ?_
    simp only [push_cast, Nat.reduceAdd, Nat.reduceSub, Nat.reduceMul, Nat.reduceLT, Nat.reduceLeDiff, Nat.reduceEqDiff, Int.reduceToNat, ↓reduceIte]
    refine (ih _ (List.getElem_mem _) (arg_bulk hb i h) _).to ?_
    simp only [push_cast, Nat.reduceAdd, Nat.reduceSub, Nat.reduceMul, Nat.reduceLT, Nat.reduceLeDiff, Nat.reduceEqDiff, Int.reduceToNat, ↓reduceIte]
  rw [formedP_mk]
  refine ACall_W (H.length) 28 [.tmp 2] Tryz.func111 rfl rfl rfl ?_
  simp only [push_cast, Nat.reduceAdd, Nat.reduceSub, Nat.reduceMul, Nat.reduceLT, Nat.reduceLeDiff, Nat.reduceEqDiff, Int.reduceToNat, ↓reduceIte]
  refine cI (fun hv => cI (fun h => ?_) (fun h => ?_)) (fun hv => cI (fun h => ?_) (fun h => ?_))
  · refine (isName_ac n _ _ (by omega)).to ?_
    simp only [push_cast, Nat.reduceAdd, Nat.reduceSub, Nat.reduceMul, Nat.reduceLT, Nat.reduceLeDiff, Nat.reduceEqDiff, Int.reduceToNat, ↓reduceIte]
    have h0 : xs.length = 0 := by omega
    simp [hv, h0]
  · have h0 : ¬ xs.length = 0 := by omega
    simp [hv, h0]
  · refine (isName_ac n _ _ (by omega)).to ?_
    simp only [push_cast, Nat.reduceAdd, Nat.reduceSub, Nat.reduceMul, Nat.reduceLT, Nat.reduceLeDiff, Nat.reduceEqDiff, Int.reduceToNat, ↓reduceIte]
    refine cI (fun hn => ?_) (fun hn => ?_)
    · refine (containsT_ac xs 143 [] (fun x => !formedP x) _ (by omega) ok143 (by simp [ScopedL]) (fun i h => hcl i h _)).to ?_
      simp only [push_cast, Nat.reduceAdd, Nat.reduceSub, Nat.reduceMul, Nat.reduceLT, Nat.reduceLeDiff, Nat.reduceEqDiff, Int.reduceToNat, ↓reduceIte]
      have h8 : xs.length ≤ 8 := by omega
      simp [hv, h8, hn, List.not_any_eq_all_not]
    · simp [hv, hn]
  · have h8 : ¬ xs.length ≤ 8 := by omega
    simp [hv, h8]
theorem fits_ac (t : Term) (hb : t.bulk ≤ 1099511627775) (H : List AObj) : ACall Tryz.prog 112 [encT t] H (fun r H' => r = .bool (fitsP t) ∧ H' = H) := by
  refine ACall_W (H.length) 10 [.tmp 2] Tryz.func112 rfl rfl rfl ?_
  simp only [push_cast, Nat.reduceAdd, Nat.reduceSub, Nat.reduceMul, Nat.reduceLT, Nat.reduceLeDiff, Nat.reduceEqDiff, Int.reduceToNat, ↓reduceIte]
  refine (size_ac t (by omega) _).to ?_
  simp only [push_cast, Nat.reduceAdd, Nat.reduceSub, Nat.reduceMul, Nat.reduceLT, Nat.reduceLeDiff, Nat.reduceEqDiff, Int.reduceToNat, ↓reduceIte]
  unfold fitsP
  refine cI (fun h => (depth_ac t (by omega) _).to ?_) (fun h => ?_)
  · simp only [push_cast, Nat.reduceAdd, Nat.reduceSub, Nat.reduceMul, Nat.reduceLT, Nat.reduceLeDiff, Nat.reduceEqDiff, Int.reduceToNat, ↓reduceIte]
    have h4 : t.size ≤ 4000 := by omega
    simp [h4]; omega
  · have h4 : ¬ t.size ≤ 4000 := by omega
    simp [h4]
theorem check_ac (t : Term) (hb : t.bulk ≤ 1099511627775) (H : List AObj) : ACall Tryz.prog 58 [encT t] H (fun r H' => r = .int .i64 (checkP t) ∧ H' = H) := by
  refine ACall_W (H.length) 10 [.tmp 2] Tryz.func58 rfl rfl rfl ?_
  simp only [push_cast, Nat.reduceAdd, Nat.reduceSub, Nat.reduceMul, Nat.reduceLT, Nat.reduceLeDiff, Nat.reduceEqDiff, Int.reduceToNat, ↓reduceIte]
  unfold checkP
  refine (formed_ac t (by omega) _).to ?_
  simp only [push_cast, Nat.reduceAdd, Nat.reduceSub, Nat.reduceMul, Nat.reduceLT, Nat.reduceLeDiff, Nat.reduceEqDiff, Int.reduceToNat, ↓reduceIte]
  refine cI (fun h => ?_) (fun h => ?_)
  · refine (fits_ac t (by omega) _).to ?_
    simp only [push_cast, Nat.reduceAdd, Nat.reduceSub, Nat.reduceMul, Nat.reduceLT, Nat.reduceLeDiff, Nat.reduceEqDiff, Int.reduceToNat, ↓reduceIte]
    refine cI (fun h2 => ?_) (fun h2 => ?_) <;> simp [h, h2]
  · simp [h]
end Ab
set_option maxRecDepth 10000
namespace Ab
open Go Go.Proofs
@[reducible] def encP (p : List Int) : List AV := encL (AV.int .i64) p
theorem uni_encP (p : List Int) : Uni 1 (encP p) := uni_encL (enc := AV.int .i64) (k := 1) (fun _ => rfl) p
theorem cell_encP (p : List Int) : ∀ c, c ∈ flat (encP p) → c.isCell = true := by
  intro c hc
  unfold flat at hc
  rw [List.mem_flatMap] at hc
  obtain ⟨a, ha, hc⟩ := hc
  simp [encP, encL] at ha
  obtain ⟨t, _, rfl⟩ := ha
  simp [AV.cells] at hc
  subst hc; rfl
theorem scoped_encP (n : Nat) (p : List Int) : ScopedL n (encP p) := scoped_encL (fun x => by simp [Scoped]) p
theorem stripL_encP (n : Nat) (p : List Int) : stripL n (encP p) = encP p := by rw [stripL_eq]; simp [encP, encL, strip]
theorem encP_snoc (p : List Int) (i : Int) : encP p ++ [.int .i64 i] = encP (p ++ [i]) := by simp [encP, encL]
def walkL : List Term → Int → List Int → List (List Int × Term)
  | [], _, _ => []
  | .mk n v xs :: r, i, p => (p ++ [i], .mk n v xs) :: (walkL xs 0 (p ++ [i]) ++ walkL r (i + 1) p)
def walkT (t : Term) (p : List Int) : List (List Int × Term) := (p, t) :: walkL t.args 0 p
theorem walkL_cons (x : Term) (r : List Term) (i : Int) (p : List Int) : walkL (x :: r) i p = walkT x (p ++ [i]) ++ walkL r (i + 1) p := by cases x; simp [walkL, walkT, Term.args]
theorem walkL_split : ∀ (xs : List Term) (k : Nat) (i : Int) (p : List Int), k ≤ xs.length → walkL xs i p = walkL (xs.take k) i p ++ walkL (xs.drop k) (i + k) p
  | xs, 0, i, p, _ => by simp [walkL]
  | [], _ + 1, i, p, h => by simp at h
  | x :: r, k + 1, i, p, h => by
    have := walkL_split r k (i + 1) p (by simpa using h)
    rw [walkL_cons, this, List.take_succ_cons, walkL_cons, List.drop_succ_cons, List.append_assoc]
    congr 3; push_cast; omega
theorem walkL_take (xs : List Term) (k : Nat) (p : List Int) (h : k < xs.length) : walkL (xs.take (k + 1)) 0 p = walkL (xs.take k) 0 p ++ walkT xs[k] (p ++ [(k : Int)]) := by
  have := walkL_split (xs.take (k + 1)) k 0 p (by simp; omega)
  have e : (xs.drop k).take 1 = [xs[k]] := by rw [List.drop_eq_getElem_cons h]; rfl
  rw [this, List.take_take, List.drop_take, show min k (k + 1) = k by omega, show k + 1 - k = 1 by omega, e]
  simp [walkL_cons, walkL]
def runTo {β : Type} (nx : List β → β → Option Code) : List β → List β → List β × Option Code
  | pre, [] => (pre, none)
  | pre, x :: xs => match nx pre x with
    | none => runTo nx (pre ++ [x]) xs
    | some c => (pre ++ [x], some c)
theorem runTo_append {β : Type} (nx : List β → β → Option Code) : ∀ (xs ys pre : List β), runTo nx pre (xs ++ ys) = match runTo nx pre xs with
    | (q, none) => runTo nx q ys
    | (q, some c) => (q, some c)
  | [], ys, pre => rfl
  | x :: xs, ys, pre => by
    simp only [List.cons_append, runTo]
    cases nx pre x with
    | none => exact runTo_append nx xs ys _
    | some c => rfl
theorem runTo_none {β : Type} (nx : List β → β → Option Code) : ∀ (xs pre : List β), AllNone nx pre → (runTo nx pre xs).2 = none → (runTo nx pre xs).1 = pre ++ xs ∧ AllNone nx (pre ++ xs)
  | [], pre, h, _ => by simp [runTo]; exact h
  | x :: xs, pre, h, hr => by
    simp only [runTo] at hr ⊢
    cases hx : nx pre x with
    | none =>
      simp only [hx] at hr ⊢
      have := runTo_none nx xs (pre ++ [x]) (h.snoc hx) hr
      simpa using this
    | some c => simp [hx] at hr
theorem runTo_some {β : Type} (nx : List β → β → Option Code) : ∀ (xs pre : List β) (c : Code), AllNone nx pre → (runTo nx pre xs).2 = some c → ∃ a x s, xs = a ++ x :: s ∧ AllNone nx (pre ++ a) ∧ nx (pre ++ a) x = some c ∧ (runTo nx pre xs).1 = pre ++ a ++ [x]
  | [], pre, c, h, hr => by simp [runTo] at hr
  | x :: xs, pre, c, h, hr => by
    simp only [runTo] at hr ⊢
    cases hx : nx pre x with
    | none =>
      simp only [hx] at hr ⊢
      obtain ⟨a, y, s, e1, e2, e3, e4⟩ := runTo_some nx xs (pre ++ [x]) c (h.snoc hx) hr
      exact ⟨x :: a, y, s, by simp [e1], by simpa using e2, by simpa using e3, by simpa using e4⟩
    | some c' =>
      simp only [hx, Option.some.injEq] at hr ⊢
      subst hr
      exact ⟨[], x, xs, rfl, by simpa using h, by simpa using hx, by simp⟩
theorem runTo_all {β : Type} (nx : List β → β → Option Code) : ∀ (ys pre : List β), AllNone nx (pre ++ ys) → runTo nx pre ys = (pre ++ ys, none)
  | [], pre, _ => by simp [runTo]
  | y :: ys, pre, h => by
    have h0 : nx pre y = none := h pre y ys rfl
    simp only [runTo, h0]
    have := runTo_all nx ys (pre ++ [y]) (by simpa using h)
    simpa using this
theorem runTo_mid {β : Type} (nx : List β → β → Option Code) (pre ys zs : List β) (ha : AllNone nx (pre ++ ys)) : runTo nx pre (ys ++ zs) = runTo nx (pre ++ ys) zs := by
  rw [runTo_append, runTo_all nx ys pre ha]
theorem le_foldl_max (f : Term → Nat) : ∀ (xs : List Term) (b : Nat), b ≤ (xs.map f).foldl max b ∧ ∀ x, x ∈ xs → f x ≤ (xs.map f).foldl max b
  | [], b => by simp
  | a :: r, b => by
    obtain ⟨h1, h2⟩ := le_foldl_max f r (max b (f a))
    simp only [List.map_cons, List.foldl_cons]
    refine ⟨by omega, fun x hx => ?_⟩
    rcases List.mem_cons.1 hx with rfl | hx
    · omega
    · exact h2 x hx
def encItem (x : List Int × Term) : List AV := [.sl .none (encP x.1), encT x.2]
theorem iterOut_runTo {β : Type} (nx : List β → β → Option Code) (items : List β) (hp : List β → Option Code → List AObj) : IterOut items nx hp (hp (runTo nx [] items).1 (runTo nx [] items).2) := by
  cases hr : (runTo nx [] items).2 with
  | none =>
    obtain ⟨h1, h2⟩ := runTo_none nx items [] AllNone.nil hr
    rw [h1]; exact .inl ⟨by simpa using h2, by simp⟩
  | some c =>
    obtain ⟨a, x, s, e1, e2, e3, e4⟩ := runTo_some nx items [] c AllNone.nil hr
    rw [e4]
    exact .inr ⟨a, x, s, c, e1, by simpa using e2, by simpa using e3, by simp⟩
theorem walkL_length : ∀ (xs : List Term) (i : Int) (p : List Int), (walkL xs i p).length = (xs.map Term.size).sum
  | [], _, _ => by simp [walkL]
  | .mk n v ys :: r, i, p => by
    have h1 := walkL_length ys 0 (p ++ [i])
    have h2 := walkL_length r (i + 1) p
    simp [walkL, h1, h2, Term.size]; omega
theorem walkT_length (t : Term) (p : List Int) : (walkT t p).length = t.size := by
  cases t with
  | mk n v xs => simp [walkT, walkL_length, Term.args, Term.size]; omega
theorem uniP (p : List Int) : Uni (0 + 1) (encP p) = True := eq_true (uni_encP p)
theorem scP_ (n : Nat) (p : List Int) : ScopedL n (encP p) = True := eq_true (scoped_encP n p)
theorem encP_length (p : List Int) : (encP p).length = p.length := encL_length _ _
attribute [push_cast] uniP scP_ stripL_encP encItem
end Ab
set_option maxRecDepth 10000
namespace Ab
open Go Go.Proofs
theorem clone_ac (p : List Int) (hb : p.length ≤ 1099511627776) (H : List AObj) : ACall Tryz.prog 109 [.sl .none (encP p)] H
    (fun r H' => (p = [] ∧ r = .sl .zero [] ∧ H' = H) ∨ (p ≠ [] ∧ r = .sl (.own H.length) (encP p) ∧ H' = H ++ [.tok 3 1 p.length])) := by
  have hl : (encP p).length = p.length := encL_length _ _
  by_cases hp : p = []
  · subst hp
    refine ACall_W (H.length) 7 [.tmp 2] Tryz.func109 rfl rfl rfl ?_
    simp only [push_cast, Nat.reduceAdd, Nat.reduceSub, Nat.reduceMul, Nat.reduceLT, Nat.reduceLeDiff, Nat.reduceEqDiff, Int.reduceToNat, ↓reduceIte]
    refine AOp_eql_nil _ _ rfl sl48 (fun b hb => ?_)
    simp only [push_cast, Nat.reduceAdd, Nat.reduceSub, Nat.reduceMul, Nat.reduceLT, Nat.reduceLeDiff, Nat.reduceEqDiff, Int.reduceToNat, ↓reduceIte]
    refine cI (fun _ => ?_) (fun _ => ?_)
    · simp
    · refine AOp_append_zero0 _ _ rfl rfl sl48 sz3 by3 zr3 ?_
      simp only [push_cast, Nat.reduceAdd, Nat.reduceSub, Nat.reduceMul, Nat.reduceLT, Nat.reduceLeDiff, Nat.reduceEqDiff, Int.reduceToNat, ↓reduceIte]
      simp
  · have hne : encP p ≠ [] := fun h => hp (List.eq_nil_of_length_eq_zero (by rw [← hl, h]; rfl))
    have hfl : flat (encP p) ≠ [] := fun h => by
      have := flat_length (uni_encP p)
      rw [h, hl] at this
      have := List.length_pos_iff.2 hp
      simp at *; omega
    refine ACall_W (H.length + 1) 7 [.tmp 2] Tryz.func109 rfl rfl rfl ?_
    simp only [push_cast, Nat.reduceAdd, Nat.reduceSub, Nat.reduceMul, Nat.reduceLT, Nat.reduceLeDiff, Nat.reduceEqDiff, Int.reduceToNat, ↓reduceIte]
    refine AOp_eql_nil _ _ rfl sl48 (fun b hb => ?_)
    have hb := hb hfl
    subst hb
    simp only [push_cast, Nat.reduceAdd, Nat.reduceSub, Nat.reduceMul, Nat.reduceLT, Nat.reduceLeDiff, Nat.reduceEqDiff, Int.reduceToNat, ↓reduceIte]
    refine AOp_append_zero _ _ _ rfl rfl sl48 sz3 by3 zr3 rfl (by decide) (uni_encP p) (cell_encP p) hne (by omega) (by omega) ?_
    simp only [push_cast, Nat.reduceAdd, Nat.reduceSub, Nat.reduceMul, Nat.reduceLT, Nat.reduceLeDiff, Nat.reduceEqDiff, Int.reduceToNat, ↓reduceIte, hl, Nat.lt_succ_self]
    simp [hp]
theorem walk_ac (id n : Nat) (hp : List (List Int × Term) → Option Code → List AObj) (nx : List (List Int × Term) → List Int × Term → Option Code) (items : List (List Int × Term)) (hid : id < n)
    (hlen : ∀ p j, (hp p j).length = n) (hsc : ∀ p j o, o ∈ hp p j → OScoped n o) (hy : YieldSeq Tryz.prog id items encItem hp nx) (t : Term) :
    t.bulk ≤ 1099511627775 → ∀ (p : List Int) (pre suf : List (List Int × Term)) (X : List AObj), p.length + t.depth ≤ 1099511627775 → items = pre ++ walkT t p ++ suf → AllNone nx pre →
    ACall Tryz.prog 154 [encT t, .sl .none (encP p), .yld id] (hp pre none ++ X)
      (fun r H' => r = .bool (runTo nx pre (walkT t p)).2.isNone ∧ H' = hp (runTo nx pre (walkT t p)).1 (runTo nx pre (walkT t p)).2 ++ X) := by
  induction t using Term.ind with | _ nm v xs ih
  intro hb p pre suf X hpl hitems hnone
  have hlen2 := Term.len_le (n := nm) (v := v) (xs := xs)
  rw [Term.depth_mk] at hpl
  obtain ⟨G, hG⟩ : ∃ G : List (List Int × Term) → Option Code → List AObj, ∀ q j, G q j = hp q j ++ X := ⟨fun q j => hp q j ++ X, fun _ _ => rfl⟩
  obtain ⟨N, hN⟩ : ∃ N, N = n + X.length := ⟨_, rfl⟩
  have hGl : ∀ q j, (G q j).length = N := fun q j => by rw [hG, hN]; simp [hlen]
  have hg0 : ∀ q j L, (G q j ++ L)[N]? = L[0]? := fun q j L => by have := agetN (G q j) L 0; rw [hGl] at this; exact this
  have hgk : ∀ q j L k, (G q j ++ L)[N + k]? = L[k]? := fun q j L k => by rw [← hGl q j]; exact agetN _ _ _
  have ht0 : ∀ q j L, (G q j ++ L).take N = G q j := fun q j L => takeE0 (hGl q j)
  have htk : ∀ q j L k, (G q j ++ L).take (N + k) = G q j ++ L.take k := fun q j L k => takeEN (hGl q j)
  have hsk : ∀ q j L k x, (G q j ++ L).set (N + k) x = G q j ++ L.set k x := fun q j L k x => hsetEN (hGl q j)
  have hs0 : ∀ q j L x, (G q j ++ L).set N x = G q j ++ L.set 0 x := fun q j L x => hsetE0 (hGl q j)
  have hy' : ∀ q x s L, items = q ++ x :: s → AllNone nx q → AYield Tryz.prog id (encItem x) (G q none ++ L) (fun r H' => r = .bool (nx q x).isNone ∧ H' = G (q ++ [x]) (nx q x) ++ L) := fun q x s L h1 h2 => by
    have := hy q x s (X ++ L) h1 h2
    simpa only [hG, List.append_assoc] using this
  have ih' : ∀ x, x ∈ xs → ∀ (p' : List Int) (q s : List (List Int × Term)) (L : List AObj), p'.length + x.depth ≤ 1099511627775 → items = q ++ walkT x p' ++ s → AllNone nx q →
      ACall Tryz.prog 154 [encT x, .sl .none (encP p'), .yld id] (G q none ++ L) (fun r H' => r = .bool (runTo nx q (walkT x p')).2.isNone ∧ H' = G (runTo nx q (walkT x p')).1 (runTo nx q (walkT x p')).2 ++ L) := fun x hx p' q s L h1 h2 h3 => by
    have hbx := Term.arg_le (n := nm) (v := v) hx
    have := ih x hx (by omega) p' q s (X ++ L) h1 h2 h3
    simpa only [hG, List.append_assoc] using this
  have hout : ∀ q j k L, scT (N + k) k L → OutOk (G pre none) (G q j ++ L) (N + k) := fun q j k L h => by
    rw [hG, hG]; exact outok_hp k (by rw [hlen, hlen]) (fun o ho => by rw [hlen]; exact hsc _ _ o ho) (by simp [hlen, hN]) (scT_spec h).1 (scT_spec h).2
  have hou0 : ∀ q j L, OutOk (G pre none) (G q j ++ L) N = True := fun q j L => eq_true (hout q j 0 L trivial)
  have houk : ∀ q j k L, scT (N + k) k L → OutOk (G pre none) (G q j ++ L) (N + k) = True := fun q j k L h => eq_true (hout q j k L h)
  have hidN : id < N := by omega
  have hidk : ∀ k, id < N + k := fun k => by omega
  have hNk : ∀ k, N < N + (k + 1) := fun k => by omega
  have hwT : walkT (.mk nm v xs) p = (p, .mk nm v xs) :: walkL xs 0 p := rfl
  have hgoal : ∀ (r : AV) (H' : List AObj), (r = .bool (runTo nx pre (walkT (.mk nm v xs) p)).2.isNone ∧ H' = G (runTo nx pre (walkT (.mk nm v xs) p)).1 (runTo nx pre (walkT (.mk nm v xs) p)).2) →
      (r = .bool (runTo nx pre (walkT (.mk nm v xs) p)).2.isNone ∧ H' = hp (runTo nx pre (walkT (.mk nm v xs) p)).1 (runTo nx pre (walkT (.mk nm v xs) p)).2 ++ X) := fun r H' h => by rw [← hG]; exact h
  rw [← hG]
  refine ACall.mono ?_ hgoal
  clear hgoal
  rw [hwT] at hitems ⊢
  have hnx0 : (nx pre (p, .mk nm v xs)).isNone = false → ∃ c, nx pre (p, .mk nm v xs) = some c := fun h => by
    cases hc : nx pre (p, .mk nm v xs) with
    | none => rw [hc] at h; cases h
    | some c => exact ⟨c, rfl⟩
  clear hG
  refine ACall_W (N) 29 [.tmp 6] Tryz.func154 rfl rfl rfl ?_
  simp only [push_cast, Nat.reduceAdd, Nat.reduceSub, Nat.reduceMul, Nat.reduceLT, Nat.reduceLeDiff, Nat.reduceEqDiff, Int.reduceToNat, ↓reduceIte, hGl, hg0, hgk, hsk, hs0]
  refine (hy' pre (p, .mk nm v xs) _ _ (by simpa using hitems) hnone).mono ?_
  rintro r H' ⟨rfl, rfl⟩
  simp only [push_cast, Nat.reduceAdd, Nat.reduceSub, Nat.reduceMul, Nat.reduceLT, Nat.reduceLeDiff, Nat.reduceEqDiff, Int.reduceToNat, ↓reduceIte, hGl, hg0, hgk, hsk, hs0, hou0, ht0]
  refine cI (fun h0 => ?_) (fun h0 => ?_)
  · have hn0 : nx pre (p, .mk nm v xs) = none := Option.isNone_iff_eq_none.1 h0
    have hq0 : G (pre ++ [(p, .mk nm v xs)]) (nx pre (p, .mk nm v xs)) = G (pre ++ (p, .mk nm v xs) :: walkL (xs.take 0) 0 p) none := by rw [hn0]; simp [walkL]
    rw [hq0]
    have hi0 : AllNone nx (pre ++ (p, .mk nm v xs) :: walkL (xs.take 0) 0 p) := by
      have := hnone.snoc (x := (p, Term.mk nm v xs)) hn0
      simpa [walkL] using this
    refine AW_loopW (maskG 32 [1, 0, 12, 0, 0]) (fun (i : Nat) => [(17, .int .i64 i)]) (fun i => G (pre ++ (p, .mk nm v xs) :: walkL (xs.take i) 0 p) none ++ [.cells [.str nm, .bool v, .sl .none (encTs xs)]]) (fun i => i ≤ xs.length ∧ AllNone nx (pre ++ (p, .mk nm v xs) :: walkL (xs.take i) 0 p)) (fun i => xs.length - i) 0 ⟨Nat.zero_le _, hi0⟩ (by simp only [push_cast, Nat.reduceAdd, Nat.reduceSub, Nat.reduceMul, Nat.reduceLT, Nat.reduceLeDiff, Nat.reduceEqDiff, Int.reduceToNat, ↓reduceIte, hGl, houk, htk, hidk, hNk, Nat.lt_succ_self]) (fun i hi => ?_)
    simp only [push_cast, Nat.reduceAdd, Nat.reduceSub, Nat.reduceMul, Nat.reduceLT, Nat.reduceLeDiff, Nat.reduceEqDiff, Int.reduceToNat, ↓reduceIte, hGl, hg0, hgk, hsk, hs0, hou0, ht0]
    refine cI (fun h => ⟨by omega, ?_⟩) (fun h => ?_)
    · have hil : i < xs.length := by omega
      have hmem : xs[i] ∈ xs := by simp
      have hdx := (le_foldl_max Term.depth xs 0).2 _ hmem
      have hit : items = (pre ++ (p, Term.mk nm v xs) :: walkL (xs.take i) 0 p) ++ walkT xs[i] (p ++ [(i : Int)]) ++ (walkL (xs.drop (i + 1)) (0 + (i : Int) + 1) p ++ suf) := by
        rw [hitems, walkL_split xs i 0 p (by omega), List.drop_eq_getElem_cons hil, walkL_cons]; simp
      obtain ⟨⟨q, j⟩, hr⟩ : ∃ y, runTo nx (pre ++ (p, Term.mk nm v xs) :: walkL (xs.take i) 0 p) (walkT xs[i] (p ++ [(i : Int)])) = y := ⟨_, rfl⟩
      have hpre : pre ++ (p, Term.mk nm v xs) :: walkL (xs.take i) 0 p ++ walkT xs[i] (p ++ [(i : Int)]) = pre ++ (p, Term.mk nm v xs) :: walkL (xs.take (i + 1)) 0 p := by rw [walkL_take _ _ _ (by omega)]; simp
      have hfin1 : j.isNone = true → q = pre ++ (p, Term.mk nm v xs) :: walkL (xs.take (i + 1)) 0 p ∧ j = none ∧ AllNone nx q := by
        intro hj
        have hj : j = none := Option.isNone_iff_eq_none.1 hj
        have hq := runTo_none nx (walkT xs[i] (p ++ [(i : Int)])) _ hi.2 (by rw [hr]; exact hj)
        rw [hr, hpre] at hq
        obtain ⟨hq1, hq2⟩ := hq
        simp only at hq1
        exact ⟨hq1, hj, hq1 ▸ hq2⟩
      have hfin2 : ¬ j.isNone = true → runTo nx pre ((p, Term.mk nm v xs) :: walkL xs 0 p) = (q, j) ∧ j.isNone = false := by
        intro hj
        obtain ⟨c, rfl⟩ : ∃ c, j = some c := by
          cases j with
          | none => simp at hj
          | some c => exact ⟨c, rfl⟩
        refine ⟨?_, rfl⟩
        rw [walkL_split xs i 0 p (by omega), List.drop_eq_getElem_cons (by omega), walkL_cons, ← List.cons_append, runTo_mid nx _ _ _ hi.2, runTo_append, Int.zero_add, hr]
      by_cases hp0 : p = []
      · skip
        apply AW_drawE [some 22, some 23, some 24, some 25, some 26, some 27, some 28, some 29, some 30] [([false, false, false], _), ([true, false, false], _), ([true, true, false], _), ([true, true, true], _)] [none, none, some 0, none, none, some 1, none, some 2, none] 3 [(0, [false, false, false], [8]), (1, [false, false, false], [1]), (2, [false, false, false], [23]), (3, [true, false, false], [7]), (4, [true, false, false], [25]), (5, [true, false, false], [24, 1]), (6, [true, true, false], [2]), (7, [true, true, false], [22, 4, 0]), (8, [true, true, true], [29]), (0, [true, false, false], [8]), (0, [true, true, false], [8]), (3, [false, false, false], [7]), (3, [true, true, false], [7]), (3, [true, true, true], [7]), (4, [false, false, false], [25]), (6, [false, false, false], [2]), (6, [true, false, false], [2])] [_, _, _, _, _, _, _, _, _]
        case' hm => exact dr
        case' hn => rfl
        case' hok => rfl
        case' hlen => rfl
        case' hd => rfl
        case' h0 => rfl
        case' hstep =>
         simp only [DAllG, push_cast, Option.isSome_some, Option.isSome_none]
         repeat' apply And.intro
         all_goals (apply DOne_V; simp only [push_cast, Nat.reduceAdd, Nat.reduceSub, Nat.reduceMul, Nat.reduceLT, Nat.reduceLeDiff, Nat.reduceEqDiff, Int.reduceToNat, ↓reduceIte, hGl, hg0, hgk, hsk, hs0] <;> first | exact rfl | omega | exact ⟨rfl, rfl⟩ | exact trivial | exact ⟨by omega, rfl⟩ | exact ⟨by omega, by omega, rfl⟩ | exact ⟨by omega, rfl, rfl⟩ | exact ⟨by omega, by omega, rfl, rfl⟩ | (refine (clone_ac p (by omega) _).mono ?_; rintro r H' (⟨hcl, rfl, rfl⟩ | ⟨hcl, rfl, rfl⟩) <;> first | exact absurd hp0 hcl | exact ⟨rfl, rfl⟩) | (refine AOp_append_zero _ _ _ rfl rfl sl48 sz3 by3 zr3 rfl (by decide) (by intro x hx; simp at hx; subst hx; rfl) (by simp [flat, AV.cells, AV.isCell]) (by simp) (by simp) (by simp) ?_; simp only [push_cast, Nat.reduceAdd, Nat.reduceSub, Nat.reduceMul, Nat.reduceLT, Nat.reduceLeDiff, Nat.reduceEqDiff, Int.reduceToNat, ↓reduceIte, hGl]; exact ⟨rfl, rfl⟩) | (refine ACall.forget (args' := [encT xs[i], .sl .none (encP (p ++ [(i : Int)])), .yld id]) ⟨Forget.refl _, by first | (rw [← encP_snoc]; exact Forget.tok _ _) | (have he : encP (p ++ [(i : Int)]) = [.int .i64 i] := (by rw [hp0]; rfl); rw [he]; exact Forget.tok _ _), Forget.refl _, trivial⟩ ((ih' xs[i] hmem (p ++ [(i : Int)]) _ _ _ (by simp; omega) hit hi.2).to ⟨rfl, rfl⟩)))
        case' hQ => skip
        simp only [push_cast, Nat.reduceAdd, Nat.reduceSub, Nat.reduceMul, Nat.reduceLT, Nat.reduceLeDiff, Nat.reduceEqDiff, Int.reduceToNat, ↓reduceIte, hr, hGl, hg0, hgk, hsk, hs0, hou0, ht0]
        refine cI (fun hj => ?_) (fun hj => ?_)
        · obtain ⟨rfl, rfl, hq2⟩ := hfin1 hj
          repeat' first | refine ⟨by omega, ?_⟩ | refine cI (fun _ => ?_) (fun _ => ?_)
          exact loopW_n (i + 1) ⟨by omega, hq2⟩ (by omega) (by simp only [push_cast, Nat.reduceAdd, Nat.reduceSub, Nat.reduceMul, Nat.reduceLT, Nat.reduceLeDiff, Nat.reduceEqDiff, Int.reduceToNat, ↓reduceIte, hGl, houk, htk, hidk, hNk, Nat.lt_succ_self])
        · obtain ⟨e1, e2⟩ := hfin2 hj
          rw [e1]
          exact ⟨e2.symm, rfl⟩
      · skip
        apply AW_drawE [some 22, some 23, some 24, some 25, some 26, some 27, some 28, some 29, some 30] [([false, false, false], _), ([true, false, false], _), ([true, true, false], _), ([true, true, true], _)] [none, none, some 0, none, none, some 1, none, some 2, none] 3 [(0, [false, false, false], [8]), (1, [false, false, false], [1]), (2, [false, false, false], [23]), (3, [true, false, false], [7]), (4, [true, false, false], [25]), (5, [true, false, false], [24, 1]), (6, [true, true, false], [2]), (7, [true, true, false], [22, 4, 0]), (8, [true, true, true], [29]), (0, [true, false, false], [8]), (0, [true, true, false], [8]), (3, [false, false, false], [7]), (3, [true, true, false], [7]), (3, [true, true, true], [7]), (4, [false, false, false], [25]), (6, [false, false, false], [2]), (6, [true, false, false], [2])] [_, _, _, _, _, _, _, _, _]
        case' hm => exact dr
        case' hn => rfl
        case' hok => rfl
        case' hlen => rfl
        case' hd => rfl
        case' h0 => rfl
        case' hstep =>
         simp only [DAllG, push_cast, Option.isSome_some, Option.isSome_none]
         repeat' apply And.intro
         all_goals (apply DOne_V; simp only [push_cast, Nat.reduceAdd, Nat.reduceSub, Nat.reduceMul, Nat.reduceLT, Nat.reduceLeDiff, Nat.reduceEqDiff, Int.reduceToNat, ↓reduceIte, hGl, hg0, hgk, hsk, hs0] <;> first | exact rfl | omega | exact ⟨rfl, rfl⟩ | exact trivial | exact ⟨by omega, rfl⟩ | exact ⟨by omega, by omega, rfl⟩ | exact ⟨by omega, rfl, rfl⟩ | exact ⟨by omega, by omega, rfl, rfl⟩ | (refine (clone_ac p (by omega) _).mono ?_; rintro r H' (⟨hcl, rfl, rfl⟩ | ⟨hcl, rfl, rfl⟩) <;> first | exact absurd hcl hp0 | exact ⟨rfl, rfl⟩) | (refine AOp_append_own _ _ _ _ _ rfl rfl ((hgk _ _ _ 2).trans (by rw [encP_length]; rfl)) sl48 sz3 by3 zr3 rfl (by decide) (uni_encP p) (by intro x hx; simp at hx; subst hx; rfl) (by simp [flat, AV.cells, AV.isCell]) (by simp only [encP_length, List.length_cons, List.length_nil]; omega) (by simp only [encP_length, List.length_cons, List.length_nil]; omega) ?_; simp only [push_cast, Nat.reduceAdd, Nat.reduceSub, Nat.reduceMul, Nat.reduceLT, Nat.reduceLeDiff, Nat.reduceEqDiff, Int.reduceToNat, ↓reduceIte, hGl, hsk]; exact ⟨rfl, rfl⟩) | (refine ACall.forget (args' := [encT xs[i], .sl .none (encP (p ++ [(i : Int)])), .yld id]) ⟨Forget.refl _, by first | (rw [← encP_snoc]; exact Forget.tok _ _) | (have he : encP (p ++ [(i : Int)]) = [.int .i64 i] := (by rw [hp0]; rfl); rw [he]; exact Forget.tok _ _), Forget.refl _, trivial⟩ ((ih' xs[i] hmem (p ++ [(i : Int)]) _ _ _ (by simp; omega) hit hi.2).to ⟨rfl, rfl⟩)))
        case' hQ => skip
        simp only [push_cast, Nat.reduceAdd, Nat.reduceSub, Nat.reduceMul, Nat.reduceLT, Nat.reduceLeDiff, Nat.reduceEqDiff, Int.reduceToNat, ↓reduceIte, hr, hGl, hg0, hgk, hsk, hs0, hou0, ht0]
        refine cI (fun hj => ?_) (fun hj => ?_)
        · obtain ⟨rfl, rfl, hq2⟩ := hfin1 hj
          repeat' first | refine ⟨by omega, ?_⟩ | refine cI (fun _ => ?_) (fun _ => ?_)
          exact loopW_n (i + 1) ⟨by omega, hq2⟩ (by omega) (by simp only [push_cast, Nat.reduceAdd, Nat.reduceSub, Nat.reduceMul, Nat.reduceLT, Nat.reduceLeDiff, Nat.reduceEqDiff, Int.reduceToNat, ↓reduceIte, hGl, houk, htk, hidk, hNk, Nat.lt_succ_self])
        · obtain ⟨e1, e2⟩ := hfin2 hj
          rw [e1]
          exact ⟨e2.symm, rfl⟩
    · have hs : xs.take i = xs := List.take_of_length_le (by omega)
      rw [hs] at hi ⊢
      have e := runTo_all nx _ _ hi.2
      rw [e]; simp
  · obtain ⟨c, hc0⟩ := hnx0 (by simpa only [Bool.not_eq_true] using h0)
    simp [runTo, hc0]
end Ab
set_option maxRecDepth 10000
namespace Ab
open Go Go.Proofs
theorem walk_iter (t : Term) (hb : t.bulk ≤ 1099511627775) (b : Nat) : IterC Tryz.prog 153 [.ptr b 0] (walkT t []) encItem (fun H => H[b]? = some (.cells [.str t.name, .bool t.var, .sl .none (encTs t.args)])) := by
  intro id n hp nx hid hlen hsc hA hy
  obtain ⟨H, hH⟩ : ∃ H, H = hp [] none := ⟨_, rfl⟩
  rw [← hH] at hA ⊢
  have hd := t.depth_le
  have hsz := t.size_le
  have hout : ∀ q j, OutOk H (hp q j) n := fun q j => by
    have := outok_hp (A := hp [] none) (B := hp q j) (X := []) (L := []) (m := n) 0 (by rw [hlen, hlen]) (fun o ho => by rw [hlen]; exact hsc _ _ o ho) (by simp [hlen]) (Nat.zero_le _) (by simp)
    simpa [hH] using this
  refine ACall_W (n) 4 [] Tryz.func153 rfl rfl rfl ?_
  simp only [push_cast, Nat.reduceAdd, Nat.reduceSub, Nat.reduceMul, Nat.reduceLT, Nat.reduceLeDiff, Nat.reduceEqDiff, Int.reduceToNat, ↓reduceIte, hA]
  refine ACall.forget (args' := [encT t, .sl .none (encP []), .yld id]) ⟨Forget.refl _, Forget.tok _ _, Forget.refl _, trivial⟩ ?_
  have hw := walk_ac id n hp nx (walkT t []) hid hlen hsc hy t hb [] [] [] [] (by simp; omega) (by simp) AllNone.nil
  simp only [List.append_nil, ← hH] at hw
  refine hw.to ?_
  simp only [push_cast, Nat.reduceAdd, Nat.reduceSub, Nat.reduceMul, Nat.reduceLT, Nat.reduceLeDiff, Nat.reduceEqDiff, Int.reduceToNat, ↓reduceIte]
  refine ⟨hout _ _, ?_⟩
  rw [List.take_of_length_le (by rw [hlen]; exact Nat.le_refl _)]
  exact iterOut_runTo nx _ hp
theorem walkF_ac (t : Term) (H : List AObj) : ACall Tryz.prog 120 [encT t] H (fun r H' => r = .fn 153 [.ptr H.length 0] ∧ H' = H ++ [.cells [.str t.name, .bool t.var, .sl .none (encTs t.args)]]) := by
  refine ACall_W (H.length + 1) 3 [.tmp 2] Tryz.func120 rfl rfl rfl ?_
  simp only [push_cast, Nat.reduceAdd, Nat.reduceSub, Nat.reduceMul, Nat.reduceLT, Nat.reduceLeDiff, Nat.reduceEqDiff, Int.reduceToNat, ↓reduceIte]
  trace_state
end Ab
set_option maxRecDepth 10000
namespace Ab
open Go Go.Proofs
theorem Term.var_mk (n : List UInt8) (v : Bool) (xs : List Term) : (Term.mk n v xs).var = v := rfl
theorem Term.name_mk (n : List UInt8) (v : Bool) (xs : List Term) : (Term.mk n v xs).name = n := rfl
theorem Term.args_mk (n : List UInt8) (v : Bool) (xs : List Term) : (Term.mk n v xs).args = xs := rfl
def atP : Term → List Int → Option Term
  | t, [] => some t
  | .mk _ _ xs, i :: p => if h : 0 ≤ i ∧ i.toNat < xs.length then atP xs[i.toNat] p else none
def putP : Term → List Int → Term → Term
  | _, [], x => x
  | .mk n _ xs, i :: p, x => .mk n false (xs.set i.toNat (putP (xs.getD i.toNat (.mk [] false [])) p x))
inductive SubT : Term → Term → Prop
  | refl (t : Term) : SubT t t
  | arg {n : List UInt8} {u : Bool} {xs : List Term} {x t : Term} (hx : x ∈ xs) (h : SubT x t) : SubT (.mk n u xs) t
theorem at_sub : ∀ (p : List Int) (t x : Term), atP t p = some x → SubT t x
  | [], t, x, h => by simp [atP] at h; subst h; exact .refl _
  | i :: p, .mk n u xs, x, h => by
    simp only [atP] at h
    split at h
    · exact .arg (List.getElem_mem _) (at_sub p _ x h)
    · cases h
theorem sum_setN (f : Term → Nat) : ∀ (xs : List Term) (j : Nat) (h : j < xs.length) (a : Term), ((xs.set j a).map f).sum + f xs[j] = (xs.map f).sum + f a
  | x :: xs, 0, h, a => by simp; omega
  | x :: xs, j + 1, h, a => by
    have := sum_setN f xs j (by simpa using h) a
    simp only [List.set_cons_succ, List.map_cons, List.sum_cons, List.getElem_cons_succ]; omega
theorem put_bulk (s : Term) : ∀ (p : List Int) (c x : Term), atP c p = some x → (putP c p s).bulk ≤ c.bulk + s.bulk
  | [], c, x, _ => by cases c; simp [putP]
  | i :: p, .mk n u xs, x, h => by
    simp only [atP] at h
    split at h
    · rename_i hi
      have ih := put_bulk s p xs[i.toNat] x h
      have hg : xs.getD i.toNat (.mk [] false []) = xs[i.toNat] := by simp [hi.2]
      simp only [putP, hg]
      have := sum_setN Term.bulk xs i.toNat hi.2 (putP xs[i.toNat] p s)
      rw [Term.bulk_mk, Term.bulk_mk]; omega
    · cases h
theorem checkP_iff (t : Term) : checkP t = 0 ↔ formedP t = true ∧ fitsP t = true := by
  unfold checkP
  cases formedP t <;> cases fitsP t <;> simp
theorem SubT.sizes {s t : Term} (h : SubT s t) : t.size ≤ s.size ∧ t.depth ≤ s.depth := by
  induction h with
  | refl => exact ⟨Nat.le_refl _, Nat.le_refl _⟩
  | @arg n u xs x t hx _ ih =>
    rw [Term.size_mk, Term.depth_mk]
    have h1 := le_sum Term.size xs x hx
    have h2 : x.depth ≤ (xs.map Term.depth).foldl max 0 := by
      have : ∀ (ys : List Nat) (b y : Nat), y ∈ ys → y ≤ ys.foldl max b := by
        intro ys
        have mono : ∀ (zs : List Nat) (b : Nat), b ≤ zs.foldl max b := by
          intro zs; induction zs with
          | nil => intro b; exact Nat.le_refl _
          | cons z zs ih => intro b; have := ih (max b z); simp only [List.foldl_cons]; omega
        induction ys with
        | nil => intro b y h; cases h
        | cons z zs ih =>
          intro b y h
          simp only [List.foldl_cons]
          rcases List.mem_cons.1 h with rfl | h
          · have := mono zs (max b y); omega
          · exact ih _ y h
      exact this _ 0 _ (List.mem_map_of_mem hx)
    omega
theorem SubT.formed {s t : Term} (h : SubT s t) : formedP s = true → formedP t = true := by
  induction h with
  | refl => exact id
  | @arg n u xs x t hx _ ih =>
    intro hs
    rw [formedP_mk] at hs
    cases u with
    | true =>
      simp only [if_true, Bool.and_eq_true, decide_eq_true_eq] at hs
      rw [List.eq_nil_of_length_eq_zero hs.1] at hx; cases hx
    | false =>
      simp only [Bool.false_eq_true, if_false, Bool.and_eq_true, List.all_eq_true] at hs
      exact ih (hs.2 x hx)
theorem SubT.check {s t : Term} (h : SubT s t) (hs : checkP s = 0) : checkP t = 0 := by
  rw [checkP_iff] at hs ⊢
  refine ⟨h.formed hs.1, ?_⟩
  have h1 := h.sizes
  have h2 := hs.2
  simp only [fitsP, Bool.and_eq_true, decide_eq_true_eq] at h2 ⊢
  omega
theorem at_bulk : ∀ (p : List Int) (t x : Term), atP t p = some x → x.bulk ≤ t.bulk
  | [], t, x, h => by simp [atP] at h; subst h; exact Nat.le_refl _
  | i :: p, .mk n u xs, x, h => by
    simp only [atP] at h
    split at h
    · rename_i hi
      have h1 := at_bulk p _ x h
      have h2 := Term.arg_le (n := n) (v := u) (List.getElem_mem hi.2)
      omega
    · cases h
theorem at_app : ∀ (p q : List Int) (t : Term), atP t (p ++ q) = (atP t p).bind fun x => atP x q
  | [], q, t => by simp [atP]
  | i :: p, q, .mk n u xs => by
    simp only [List.cons_append, atP]
    split
    · exact at_app p q _
    · rfl
theorem flat_encTs_cons (x : Term) (xs : List Term) : flat (encTs (x :: xs)) = [.str x.name, .bool x.var, .sl .none (encTs x.args)] ++ flat (encTs xs) := by rw [encTs_cons]; simp [flat, AV.cells]
theorem flat_encTs_len : ∀ xs : List Term, (flat (encTs xs)).length = xs.length * 3
  | [] => by simp [encTs, flat]
  | x :: xs => by rw [flat_encTs_cons, List.length_append, flat_encTs_len xs]; simp; omega
theorem scoped_flatT (n : Nat) : ∀ xs : List Term, ScopedL n (flat (encTs xs))
  | [] => by simp [encTs, flat, ScopedL]
  | x :: xs => by rw [flat_encTs_cons]; simp [ScopedL, Scoped, scoped_encTs, scoped_flatT n xs]
theorem flat_encTs_get : ∀ (xs : List Term) (i : Nat) (h : i < xs.length), ((flat (encTs xs)).drop (i * 3)).take 3 = [.str xs[i].name, .bool xs[i].var, .sl .none (encTs xs[i].args)]
  | x :: xs, 0, h => by rw [flat_encTs_cons]; simp
  | x :: xs, i + 1, h => by
    have := flat_encTs_get xs i (by simpa using h)
    rw [flat_encTs_cons, List.drop_append, show (i + 1) * 3 = i * 3 + 3 by omega]
    simpa using this
theorem flat_encTs_set : ∀ (xs : List Term) (i : Nat) (h : i < xs.length) (y : Term), splice (flat (encTs xs)) (i * 3) [.str y.name, .bool y.var, .sl .none (encTs y.args)] = flat (encTs (xs.set i y))
  | x :: xs, 0, h, y => by rw [flat_encTs_cons, List.set_cons_zero, flat_encTs_cons]; simp [splice]
  | x :: xs, i + 1, h, y => by
    have := flat_encTs_set xs i (by simpa using h) y
    rw [List.set_cons_succ, flat_encTs_cons, flat_encTs_cons, ← this]
    unfold splice
    rw [show (i + 1) * 3 = i * 3 + 3 by omega, List.take_append, List.drop_append]
    simp
theorem flat_encTs_set2 (xs : List Term) (i : Nat) (h : i < xs.length) (y : Term) : List.take (i * 3) (flat (encTs xs)) ++ AV.str y.name :: AV.bool y.var :: AV.sl .none (encTs y.args) :: List.drop (i * 3 + 3) (flat (encTs xs)) = flat (encTs (xs.set i y)) := by
  have := flat_encTs_set xs i h y
  simpa [splice] using this
theorem at_step (x : Term) (k : Int) (q : List Int) : (∀ h : 0 ≤ k ∧ k.toNat < x.args.length, atP x (k :: q) = atP (x.args[k.toNat]'h.2) q) ∧ (¬ (0 ≤ k ∧ k.toNat < x.args.length) → atP x (k :: q) = none) := by
  cases x with
  | mk n u xs => exact ⟨fun h => by simp only [atP, Term.args_mk]; exact dif_pos h, fun h => by simp only [atP]; exact dif_neg h⟩
theorem at_var {t x : Term} {p : List Int} (h : atP t p = some x) (hp : p ≠ []) (hf : formedP t = true) : t.var = false := by
  cases p with
  | nil => exact absurd rfl hp
  | cons i p =>
    cases t with
    | mk n u xs =>
      simp only [atP] at h
      split at h
      · rename_i hi
        cases u with
        | false => rfl
        | true => rw [formedP_mk] at hf; simp at hf; have := hi.2; rw [hf.1] at this; simp at this
      · cases h
def setP : Term → List Int → Term → Term
  | _, [], x => x
  | .mk n v xs, i :: p, x => .mk n v (xs.set i.toNat (setP (xs.getD i.toNat (.mk [] false [])) p x))
theorem setP_put : ∀ (p : List Int) (t x y : Term), atP t p = some y → formedP t = true → setP t p x = putP t p x
  | [], t, x, y, _, _ => by cases t; rfl
  | i :: p, .mk n v xs, x, y, h, hf => by
    have hv := at_var h (by simp) hf
    simp only [atP] at h
    split at h
    · rename_i hi
      have hm := List.getElem_mem hi.2
      have hg : xs.getD i.toNat (.mk [] false []) = xs[i.toNat] := by simp [hi.2]
      simp only [Term.var_mk] at hv
      subst hv
      have hx : formedP xs[i.toNat] = true := by rw [formedP_mk] at hf; simp at hf; exact hf.2 _ hm
      simp only [setP, putP, hg]
      rw [setP_put p _ x y h hx]
    · cases h
end Ab
set_option maxRecDepth 10000
namespace Ab
open Go Go.Proofs
theorem own_ac (t : Term) : t.bulk ≤ 1099511627775 → ∀ H, ACall Tryz.prog 78 [encT t] H (fun r H' => r = encT t ∧ H' = H) := by
  induction t using Term.ind with | _ n v xs ih
  intro hb H
  have hlen := Term.len_le (n := n) (v := v) (xs := xs)
  refine ACall_V (H.length) 26 [.cell 2 25] Tryz.func78 rfl rfl rfl ?_
  simp only [push_cast, Nat.reduceAdd, Nat.reduceSub, Nat.reduceMul, Nat.reduceLT, Nat.reduceLeDiff, Nat.reduceEqDiff, Int.reduceToNat, ↓reduceIte]
  refine AW_reserve 1 ?_
  refine AW_loopW (maskG 27 [2, 0, 8, 0, 0]) (fun (i : Nat) => [(14, .int .i64 i)]) (fun i => H ++ [.cells [.str n, .bool v, .sl .none (encTs xs)], .cells [.str [], .bool false, .sl .zero []], .cells [.str n, .bool v, gSl (H.length + 3) (encTs (xs.take i))], gTok 25 3 (encTs (xs.take i))]) (fun i => i ≤ xs.length) (fun i => xs.length - i) 0 (Nat.zero_le _) (by simp only [push_cast, Nat.reduceAdd, Nat.reduceSub, Nat.reduceMul, Nat.reduceLT, Nat.reduceLeDiff, Nat.reduceEqDiff, Int.reduceToNat, ↓reduceIte]) (fun i hi => ?_)
  simp only [push_cast, Nat.reduceAdd, Nat.reduceSub, Nat.reduceMul, Nat.reduceLT, Nat.reduceLeDiff, Nat.reduceEqDiff, Int.reduceToNat, ↓reduceIte]
  refine cI (fun h => ⟨by omega, ?_⟩) (fun h => ?_)
  · skip
    apply AW_drawE [some 18, some 19, some 20, some 21, some 22, some 23, some 24, none] [([false, false], _), ([true, false], _), ([true, true], _)] [none, none, none, none, none, some 0, none, some 1] 2 [(0, [false, false], [3]), (1, [false, false], [18]), (2, [false, false], [5]), (3, [false, false], [20]), (4, [false, false], [21]), (5, [false, false], [19, 2]), (6, [true, false], [3]), (7, [true, false], [23, 0]), (0, [true, false], [3]), (2, [true, false], [5])] [_, _, _, _, _, _, _, _]
    case' hm => exact dr
    case' hn => rfl
    case' hok => rfl
    case' hlen => rfl
    case' hd => rfl
    case' h0 => rfl
    case' hstep =>
     simp only [DAllG, push_cast, Option.isSome_some, Option.isSome_none]
     repeat' apply And.intro
     all_goals (apply DOne_V; simp only [push_cast, Nat.reduceAdd, Nat.reduceSub, Nat.reduceMul, Nat.reduceLT, Nat.reduceLeDiff, Nat.reduceEqDiff, Int.reduceToNat, ↓reduceIte] <;> first | exact rfl | omega | exact ⟨rfl, rfl⟩ | exact trivial | exact ⟨by omega, rfl⟩ | exact ⟨by omega, by omega, rfl⟩ | exact ⟨by omega, rfl, rfl⟩ | exact ⟨by omega, by omega, rfl, rfl⟩ | exact (ih _ (List.getElem_mem _) (arg_bulk hb i (by omega)) _).to ⟨rfl, rfl⟩ | (refine app1_T _ (H.length + 3) (xs.take i) xs[i] _ rfl rfl (by exact (agetN _ _ 3).trans rfl) sl23 sz25 by25 zr25 rfl (by decide) (by simp; omega) ?_; simp only [push_cast, Nat.reduceAdd, Nat.reduceSub, Nat.reduceMul, Nat.reduceLT, Nat.reduceLeDiff, Nat.reduceEqDiff, Int.reduceToNat, ↓reduceIte]; exact ⟨rfl, rfl⟩))
    case' hQ => skip
    simp only [push_cast, Nat.reduceAdd, Nat.reduceSub, Nat.reduceMul, Nat.reduceLT, Nat.reduceLeDiff, Nat.reduceEqDiff, Int.reduceToNat, ↓reduceIte, ← List.take_succ_eq_append_getElem (show i < xs.length by omega)]
    repeat' first | refine ⟨by omega, ?_⟩ | refine cI (fun _ => ?_) (fun _ => ?_)
    exact loopW_n (i + 1) (by omega) (by omega) (by simp only [push_cast, Nat.reduceAdd, Nat.reduceSub, Nat.reduceMul, Nat.reduceLT, Nat.reduceLeDiff, Nat.reduceEqDiff, Int.reduceToNat, ↓reduceIte])
  · simp only [push_cast, Nat.reduceAdd, Nat.reduceSub, Nat.reduceMul, Nat.reduceLT, Nat.reduceLeDiff, Nat.reduceEqDiff, Int.reduceToNat, ↓reduceIte, List.take_of_length_le (show xs.length ≤ i by omega)]
theorem fit_ac (t : Term) (hb : t.bulk ≤ 1099511627775) (H : List AObj) : ACall Tryz.prog 63 [encT t] H (fun r H' => r = (if fitsP t then .tup [encT t, .int .i64 0] else .tup [encT (.mk [] false []), .int .i64 3]) ∧ H' = H) := by
  refine ACall_V (H.length) 8 [.cell 2 25, .tmp 3] Tryz.func63 rfl rfl rfl ?_
  simp only [push_cast, Nat.reduceAdd, Nat.reduceSub, Nat.reduceMul, Nat.reduceLT, Nat.reduceLeDiff, Nat.reduceEqDiff, Int.reduceToNat, ↓reduceIte]
  refine (fits_ac t hb _).to ?_
  simp only [push_cast, Nat.reduceAdd, Nat.reduceSub, Nat.reduceMul, Nat.reduceLT, Nat.reduceLeDiff, Nat.reduceEqDiff, Int.reduceToNat, ↓reduceIte]
  refine cI (fun h => ?_) (fun h => ?_) <;> simp only [push_cast, Nat.reduceAdd, Nat.reduceSub, Nat.reduceMul, Nat.reduceLT, Nat.reduceLeDiff, Nat.reduceEqDiff, Int.reduceToNat, ↓reduceIte, h]
theorem sub_ac (t : Term) (p : List Int) (hb : t.bulk ≤ 1099511627775) (hlen : p.length < 1099511627776) (H : List AObj) :
    ACall Tryz.prog 59 [encT t, .sl .none (encP p)] H (fun r H' => r = (match atP t p with | some x => .tup [encT x, .bool true] | none => .tup [encT (.mk [] false []), .bool false]) ∧ H' = H) := by
  refine ACall_V (H.length) 29 [.cell 4 25, .tmp 5] Tryz.func59 rfl rfl rfl ?_
  simp only [push_cast, Nat.reduceAdd, Nat.reduceSub, Nat.reduceMul, Nat.reduceLT, Nat.reduceLeDiff, Nat.reduceEqDiff, Int.reduceToNat, ↓reduceIte]
  refine AW_loopW (maskG 31 [2, 1, 3, 0, 0]) (fun (q : Nat × Term) => [(10, .int .i64 q.1)]) (fun q => H ++ [.cells [.str q.2.name, .bool q.2.var, .sl .none (encTs q.2.args)], .cells [.str [], .bool false, .sl .zero []]]) (fun q => q.1 ≤ p.length ∧ atP t (p.take q.1) = some q.2) (fun q => p.length - q.1) (0, t) ⟨Nat.zero_le _, by cases t; rfl⟩ (by simp only [push_cast, Nat.reduceAdd, Nat.reduceSub, Nat.reduceMul, Nat.reduceLT, Nat.reduceLeDiff, Nat.reduceEqDiff, Int.reduceToNat, ↓reduceIte]) (fun ⟨i, x⟩ hi => ?_)
  obtain ⟨hi, hx⟩ := hi
  simp only at hi hx
  have hbx := at_bulk _ _ _ hx
  have hlx : x.args.length < x.bulk := by cases x; exact Term.len_le
  simp only [push_cast, Nat.reduceAdd, Nat.reduceSub, Nat.reduceMul, Nat.reduceLT, Nat.reduceLeDiff, Nat.reduceEqDiff, Int.reduceToNat, ↓reduceIte]
  refine cI (fun h => ⟨by omega, ?_⟩) (fun h => ?_)
  · have hs := at_step x p[i] (p.drop (i + 1))
    have hap := at_app (p.take i) (p.drop i) t
    rw [List.take_append_drop, hx, List.drop_eq_getElem_cons (by omega)] at hap
    simp only [Option.bind_some] at hap
    have hap2 := at_app (p.take i) [p[i]] t
    rw [hx, ← List.take_succ_eq_append_getElem (by omega)] at hap2
    simp only [Option.bind_some] at hap2
    refine cI (fun h1 => ?_) (fun h1 => cI (fun h2 => ?_) (fun h2 => ?_))
    · simp only [push_cast, Nat.reduceAdd, Nat.reduceSub, Nat.reduceMul, Nat.reduceLT, Nat.reduceLeDiff, Nat.reduceEqDiff, Int.reduceToNat, ↓reduceIte, hap, hs.2 (fun hh => by omega)]
    · simp only [push_cast, Nat.reduceAdd, Nat.reduceSub, Nat.reduceMul, Nat.reduceLT, Nat.reduceLeDiff, Nat.reduceEqDiff, Int.reduceToNat, ↓reduceIte, hap, hs.2 (fun hh => by omega)]
    · have hk : 0 ≤ p[i] ∧ p[i].toNat < x.args.length := ⟨by omega, by omega⟩
      have hs2 := (at_step x p[i] []).1 hk
      refine ⟨by omega, by omega, by omega, loopW_n (i + 1, x.args[p[i].toNat]) ⟨by simp only; omega, ?_⟩ (by simp only; omega) (by simp only [push_cast, Nat.reduceAdd, Nat.reduceSub, Nat.reduceMul, Nat.reduceLT, Nat.reduceLeDiff, Nat.reduceEqDiff, Int.reduceToNat, ↓reduceIte])⟩
      simp only
      rw [hap2, hs2]
      cases x.args[p[i].toNat]; rfl
  · rw [List.take_of_length_le (by omega)] at hx
    simp only [push_cast, Nat.reduceAdd, Nat.reduceSub, Nat.reduceMul, Nat.reduceLT, Nat.reduceLeDiff, Nat.reduceEqDiff, Int.reduceToNat, ↓reduceIte, hx]
theorem set_step (n : List UInt8) (v : Bool) (xs : List Term) (k : Int) (p : List Int) (x : Term) (h0 : 0 ≤ k) : setP (.mk n v xs) (k :: p) x = .mk n v (xs.set k.toNat (setP (xs.getD k.toNat (.mk [] false [])) p x)) := rfl
theorem set_ac (x : Term) (hx : x.bulk ≤ 1099511627775) (t : Term) : t.bulk ≤ 1099511627775 → ∀ (p : List Int), p.length < 1099511627776 → (∃ y, atP t p = some y) → ∀ H,
    ACall Tryz.prog 64 [encT t, .sl .none (encP p), encT x] H (fun r H' => r = encT (setP t p x) ∧ H' = H) := by
  induction t using Term.ind with | _ n v xs ih
  intro hb p hpl hat H
  have hlen := Term.len_le (n := n) (v := v) (xs := xs)
  cases p with
  | nil =>
    refine ACall_V (H.length) 45 [.cell 6 25] Tryz.func64 rfl rfl rfl ?_
    simp only [push_cast, Nat.reduceAdd, Nat.reduceSub, Nat.reduceMul, Nat.reduceLT, Nat.reduceLeDiff, Nat.reduceEqDiff, Int.reduceToNat, ↓reduceIte]
    refine (own_ac x hx _).to ?_
    simp only [push_cast, Nat.reduceAdd, Nat.reduceSub, Nat.reduceMul, Nat.reduceLT, Nat.reduceLeDiff, Nat.reduceEqDiff, Int.reduceToNat, ↓reduceIte, setP]
  | cons k p =>
    obtain ⟨y, hy⟩ := hat
    simp only [atP] at hy
    split at hy
    · rename_i hk
      have hg : xs.getD k.toNat (.mk [] false []) = xs[k.toNat] := by simp [hk.2]
      rw [set_step _ _ _ _ _ _ hk.1, hg]
      refine ACall_V (H.length) 45 [.cell 6 25] Tryz.func64 rfl rfl rfl ?_
      simp only [push_cast, Nat.reduceAdd, Nat.reduceSub, Nat.reduceMul, Nat.reduceLT, Nat.reduceLeDiff, Nat.reduceEqDiff, Int.reduceToNat, ↓reduceIte]
      refine cI (fun h => by omega) (fun _ => ?_)
      obtain ⟨Y, hY⟩ : ∃ Y, Y = xs.set k.toNat (setP xs[k.toNat] p x) := ⟨_, rfl⟩
      have hYl : Y.length = xs.length := by rw [hY]; simp
      have hYe : ∀ i (h : i < Y.length), i = k.toNat → Y[i] = setP xs[k.toNat] p x := fun i h e => by subst hY; subst e; simp
      have hYn : ∀ i (h : i < Y.length) (h' : i < xs.length), i ≠ k.toNat → Y[i] = xs[i] := fun i h h' e => by subst hY; rw [List.getElem_set_ne (Ne.symm e)]
      rw [← hY]
      refine AW_reserve 1 ?_
      refine AW_loopW (maskG 48 [1, 3, 0, 0, 13, 0, 0]) (fun (i : Nat) => [(23, .int .i64 i)]) (fun i => H ++ [.cells [.str n, .bool v, .sl .none (encTs xs)], .cells [.str x.name, .bool x.var, .sl .none (encTs x.args)], .cells [.str [], .bool false, .sl .zero []], .cells [.str n, .bool v, gSl (H.length + 4) (encTs (Y.take i))], gTok 25 3 (encTs (Y.take i))]) (fun i => i ≤ xs.length) (fun i => xs.length - i) 0 (Nat.zero_le _) (by simp only [push_cast, Nat.reduceAdd, Nat.reduceSub, Nat.reduceMul, Nat.reduceLT, Nat.reduceLeDiff, Nat.reduceEqDiff, Int.reduceToNat, ↓reduceIte]) (fun i hi => ?_)
      simp only [push_cast, Nat.reduceAdd, Nat.reduceSub, Nat.reduceMul, Nat.reduceLT, Nat.reduceLeDiff, Nat.reduceEqDiff, Int.reduceToNat, ↓reduceIte]
      refine cI (fun h => ?_) (fun h => ?_)
      · repeat refine ⟨by omega, ?_⟩
        have hxm := arg_bulk hb i (by omega)
        refine cI (fun hik => ?_) (fun hik => ?_)
        · have hik2 : i = k.toNat := by omega
          have hxe : xs[i]'(by omega) = xs[k.toNat] := by subst hik2; rfl
          simp only [push_cast, Nat.reduceAdd, Nat.reduceSub, Nat.reduceMul, Nat.reduceLT, Nat.reduceLeDiff, Nat.reduceEqDiff, Int.reduceToNat, ↓reduceIte, hxe]
          apply AW_drawE [some 33, some 34, some 35, some 36, some 37, none] [([false], _), ([true], _)] [none, none, none, none, none, some 0] 1 [(0, [false], [9]), (1, [false], [1]), (2, [false], [34]), (3, [false], [5]), (4, [false], [33, 1, 0]), (5, [false], [9, 27])] [_, _, _, _, _, _]
          case' hm => exact dr
          case' hn => rfl
          case' hok => rfl
          case' hlen => rfl
          case' hd => rfl
          case' h0 => rfl
          case' hstep =>
           simp only [DAllG, push_cast, Option.isSome_some, Option.isSome_none]
           repeat' apply And.intro
           all_goals (apply DOne_V; simp only [push_cast, Nat.reduceAdd, Nat.reduceSub, Nat.reduceMul, Nat.reduceLT, Nat.reduceLeDiff, Nat.reduceEqDiff, Int.reduceToNat, ↓reduceIte] <;> first | exact rfl | omega | exact ⟨rfl, rfl⟩ | exact trivial | exact ⟨by omega, rfl⟩ | exact ⟨by omega, by omega, rfl⟩ | exact ⟨by omega, rfl, rfl⟩ | exact ⟨by omega, by omega, rfl, rfl⟩ | exact (ih _ (List.getElem_mem _) (by rw [← hxe]; exact hxm) p (by simp at hpl; omega) ⟨y, hy⟩ _).to ⟨rfl, rfl⟩)
          case' hQ => skip
          simp only [push_cast, Nat.reduceAdd, Nat.reduceSub, Nat.reduceMul, Nat.reduceLT, Nat.reduceLeDiff, Nat.reduceEqDiff, Int.reduceToNat, ↓reduceIte]
          refine app1_T _ (H.length + 4) (Y.take i) (setP xs[k.toNat] p x) _ rfl rfl (by exact (agetN _ _ 4).trans rfl) sl23 sz25 by25 zr25 rfl (by decide) (by simp; omega) ?_
          simp only [push_cast, Nat.reduceAdd, Nat.reduceSub, Nat.reduceMul, Nat.reduceLT, Nat.reduceLeDiff, Nat.reduceEqDiff, Int.reduceToNat, ↓reduceIte, ← hYe i (by omega) hik2, ← List.take_succ_eq_append_getElem (show i < Y.length by omega)]
          repeat' first | refine ⟨by omega, ?_⟩ | refine cI (fun _ => ?_) (fun _ => ?_)
          exact loopW_n (i + 1) (by omega) (by omega) (by simp only [push_cast, Nat.reduceAdd, Nat.reduceSub, Nat.reduceMul, Nat.reduceLT, Nat.reduceLeDiff, Nat.reduceEqDiff, Int.reduceToNat, ↓reduceIte])
        · refine (own_ac _ hxm _).to ?_
          simp only [push_cast, Nat.reduceAdd, Nat.reduceSub, Nat.reduceMul, Nat.reduceLT, Nat.reduceLeDiff, Nat.reduceEqDiff, Int.reduceToNat, ↓reduceIte]
          refine app1_T _ (H.length + 4) (Y.take i) xs[i] _ rfl rfl (by exact (agetN _ _ 4).trans rfl) sl23 sz25 by25 zr25 rfl (by decide) (by simp; omega) ?_
          simp only [push_cast, Nat.reduceAdd, Nat.reduceSub, Nat.reduceMul, Nat.reduceLT, Nat.reduceLeDiff, Nat.reduceEqDiff, Int.reduceToNat, ↓reduceIte, ← hYn i (by omega) (by omega) (by omega), ← List.take_succ_eq_append_getElem (show i < Y.length by omega)]
          repeat' first | refine ⟨by omega, ?_⟩ | refine cI (fun _ => ?_) (fun _ => ?_)
          exact loopW_n (i + 1) (by omega) (by omega) (by simp only [push_cast, Nat.reduceAdd, Nat.reduceSub, Nat.reduceMul, Nat.reduceLT, Nat.reduceLeDiff, Nat.reduceEqDiff, Int.reduceToNat, ↓reduceIte])
      · simp only [push_cast, Nat.reduceAdd, Nat.reduceSub, Nat.reduceMul, Nat.reduceLT, Nat.reduceLeDiff, Nat.reduceEqDiff, Int.reduceToNat, ↓reduceIte, List.take_of_length_le (show Y.length ≤ i by omega)]
    · cases hy
def zeroT : Term := .mk [] false []
@[reducible] def encRE (q : Term × Int) : AV := .tup [encT q.1, .int .i64 q.2]
theorem zeroT_n : zeroT.name = [] := rfl
theorem zeroT_v : zeroT.var = false := rfl
theorem zeroT_a : encTs zeroT.args = [] := encTs_nil
attribute [push_cast] zeroT_n zeroT_v zeroT_a
end Ab
set_option maxRecDepth 10000
namespace Ab
open Go Go.Proofs
@[reducible] def encQ (p : List Int) : AV := .sl .none (encP p)
theorem clone2_ac (p : List Int) (hb : p.length ≤ 1099511627776) (H : List AObj) : ACall Tryz.prog 109 [.sl .none (encP p)] H (fun r H' => r = encQ p ∧ H' = H) := by
  have hl : (encP p).length = p.length := encL_length _ _
  refine ACall_V (H.length) 7 [.tmp 2] Tryz.func109 rfl rfl rfl ?_
  simp only [push_cast, Nat.reduceAdd, Nat.reduceSub, Nat.reduceMul, Nat.reduceLT, Nat.reduceLeDiff, Nat.reduceEqDiff, Int.reduceToNat, ↓reduceIte]
  refine AOp_eql_nil _ _ rfl sl48 (fun b hb => ?_)
  simp only [push_cast, Nat.reduceAdd, Nat.reduceSub, Nat.reduceMul, Nat.reduceLT, Nat.reduceLeDiff, Nat.reduceEqDiff, Int.reduceToNat, ↓reduceIte]
  by_cases hp : p = []
  · subst hp
    refine cI (fun _ => ?_) (fun _ => ?_)
    · simp only [push_cast, Nat.reduceAdd, Nat.reduceSub, Nat.reduceMul, Nat.reduceLT, Nat.reduceLeDiff, Nat.reduceEqDiff, Int.reduceToNat, ↓reduceIte]
    · refine AOp_append_zero0 _ _ rfl rfl sl48 sz3 by3 zr3 ?_
      simp only [push_cast, Nat.reduceAdd, Nat.reduceSub, Nat.reduceMul, Nat.reduceLT, Nat.reduceLeDiff, Nat.reduceEqDiff, Int.reduceToNat, ↓reduceIte]
  · have hne : encP p ≠ [] := fun h => hp (List.eq_nil_of_length_eq_zero (by rw [← hl, h]; rfl))
    have hfl : flat (encP p) ≠ [] := fun h => by
      have := flat_length (uni_encP p)
      rw [h, hl] at this
      have := List.length_pos_iff.2 hp
      simp at *; omega
    refine cI (fun hb' => by rw [hb hfl] at hb'; cases hb') (fun _ => ?_)
    refine AOp_append_zero _ _ _ rfl rfl sl48 sz3 by3 zr3 rfl (by decide) (uni_encP p) (cell_encP p) hne (by omega) (by omega) ?_
    simp only [push_cast, Nat.reduceAdd, Nat.reduceSub, Nat.reduceMul, Nat.reduceLT, Nat.reduceLeDiff, Nat.reduceEqDiff, Int.reduceToNat, ↓reduceIte]
theorem walkL_pos (xs : List Term) : ∀ (i : Int) (q : List Int) x, x ∈ walkL xs i q → x.1.length ≤ q.length + (xs.map Term.size).sum := by
  have key : ∀ n (xs : List Term), (xs.map Term.size).sum < n → ∀ (i : Int) (q : List Int) x, x ∈ walkL xs i q → x.1.length ≤ q.length + (xs.map Term.size).sum := by
    intro n
    induction n with
    | zero => intro xs h; omega
    | succ n ih =>
      intro xs hn i q x hx
      cases xs with
      | nil => simp [walkL] at hx
      | cons t r =>
        cases t with
        | mk nm v ys =>
          simp only [List.map_cons, List.sum_cons, Term.size_mk] at hn ⊢
          simp only [walkL, List.mem_cons, List.mem_append] at hx
          rcases hx with rfl | hx | hx
          · simp; omega
          · have := ih ys (by omega) 0 _ x hx; simp at this; omega
          · have := ih r (by omega) _ _ x hx; omega
  exact key _ xs (Nat.lt_succ_self _)
theorem walk_pos_len (t : Term) (q : List Int) : ∀ x, x ∈ walkT t q → x.1.length < q.length + t.size := by
  intro x hx
  cases t with
  | mk n v xs =>
    rw [Term.size_mk]
    simp only [walkT, List.mem_cons, Term.mk_args] at hx
    rcases hx with rfl | hx
    · simp; omega
    · have := walkL_pos xs 0 q x hx; omega
end Ab
namespace Go.Proofs
open Go.Shelf Go.Sort Go.RowKit
def Tryz.lays190_ren : Go.Shelf.Ren := ⟨fun | 190 => 169 | 125 => 123 | 258 => 185 | 128 => 164 | 129 => 165 | 302 => 191 | 303 => 192 | 304 => 193 | 305 => 194 | 306 => 195 | 307 => 196 | 308 => 197 | 309 => 198 | 310 => 199 | 333 => 202 | 329 => 180 | 330 => 181 | 334 => 203 | 335 => 204 | 336 => 205 | 344 => 208 | n => n, fun | 31 => 163 | 9 => 9 | 3 => 3 | 46 => 158 | 0 => 0 | 51 => 189 | 53 => 191 | 4 => 4 | 183 => 183 | 182 => 182 | 131 => 81 | 5 => 5 | 218 => 205 | 222 => 209 | 228 => 216 | 229 => 138 | n => n, fun | n => n⟩
theorem Tryz.lays190 : Go.Proofs.Lays.n190 Tryz.prog Tryz.lays190_ren := {
  mixed := by kernel_rfl
  f125 := Tryz.func123.trans (congrArg some (by kernel_rfl))
  f128 := Tryz.func164.trans (congrArg some (by kernel_rfl))
  f129 := Tryz.func165.trans (congrArg some (by kernel_rfl))
  f190 := Tryz.func169.trans (congrArg some (by kernel_rfl))
  f258 := Tryz.func185.trans (congrArg some (by kernel_rfl))
  f302 := Tryz.func191.trans (congrArg some (by kernel_rfl))
  f303 := Tryz.func192.trans (congrArg some (by kernel_rfl))
  f304 := Tryz.func193.trans (congrArg some (by kernel_rfl))
  f305 := Tryz.func194.trans (congrArg some (by kernel_rfl))
  f306 := Tryz.func195.trans (congrArg some (by kernel_rfl))
  f307 := Tryz.func196.trans (congrArg some (by kernel_rfl))
  f308 := Tryz.func197.trans (congrArg some (by kernel_rfl))
  f309 := Tryz.func198.trans (congrArg some (by kernel_rfl))
  f310 := Tryz.func199.trans (congrArg some (by kernel_rfl))
  f329 := Tryz.func180.trans (congrArg some (by kernel_rfl))
  f330 := Tryz.func181.trans (congrArg some (by kernel_rfl))
  f333 := Tryz.func202.trans (congrArg some (by kernel_rfl))
  f334 := Tryz.func203.trans (congrArg some (by kernel_rfl))
  f335 := Tryz.func204.trans (congrArg some (by kernel_rfl))
  f336 := Tryz.func205.trans (congrArg some (by kernel_rfl))
  f344 := Tryz.func208.trans (congrArg some (by kernel_rfl))
  t0 := Tryz.underlying0
  a0 := Tryz.isAgg0
  z0 := Tryz.sizeOf0
  v0 := Tryz.zeroValue0
  t3 := Tryz.underlying3
  a3 := Tryz.isAgg3
  z3 := Tryz.sizeOf3
  v3 := Tryz.zeroValue3
  t4 := Tryz.underlying4
  a4 := Tryz.isAgg4
  z4 := Tryz.sizeOf4
  v4 := Tryz.zeroValue4
  t5 := Tryz.underlying5
  a5 := Tryz.isAgg5
  z5 := Tryz.sizeOf5
  v5 := Tryz.zeroValue5
  t9 := Tryz.underlying9
  a9 := Tryz.isAgg9
  z9 := Tryz.sizeOf9
  v9 := Tryz.zeroValue9
  t31 := Tryz.underlying163
  a31 := Tryz.isAgg163
  z31 := Tryz.sizeOf163
  v31 := Tryz.zeroValue163
  t46 := Tryz.underlying158
  a46 := Tryz.isAgg158
  z46 := Tryz.sizeOf158
  v46 := Tryz.zeroValue158
  t51 := Tryz.underlying189
  a51 := Tryz.isAgg189
  z51 := Tryz.sizeOf189
  v51 := Tryz.zeroValue189
  t53 := Tryz.underlying191
  a53 := Tryz.isAgg191
  z53 := Tryz.sizeOf191
  v53 := Tryz.zeroValue191
  t131 := Tryz.underlying81
  a131 := Tryz.isAgg81
  z131 := Tryz.sizeOf81
  v131 := Tryz.zeroValue81
  t182 := Tryz.underlying182
  a182 := Tryz.isAgg182
  z182 := Tryz.sizeOf182
  v182 := Tryz.zeroValue182
  t183 := Tryz.underlying183
  a183 := Tryz.isAgg183
  z183 := Tryz.sizeOf183
  v183 := Tryz.zeroValue183
  t218 := Tryz.underlying205
  a218 := Tryz.isAgg205
  z218 := Tryz.sizeOf205
  v218 := Tryz.zeroValue205
  t222 := Tryz.underlying209
  a222 := Tryz.isAgg209
  z222 := Tryz.sizeOf209
  v222 := Tryz.zeroValue209
  t228 := Tryz.underlying216
  a228 := Tryz.isAgg216
  z228 := Tryz.sizeOf216
  v228 := Tryz.zeroValue216
  t229 := Tryz.underlying138
  a229 := Tryz.isAgg138
  z229 := Tryz.sizeOf138
  v229 := Tryz.zeroValue138 }
theorem Tryz.slices_Sort_string (blk off cap : Nat) (ss : List (List UInt8)) (w : World) (hH : Holds encStr w blk off ss.toArray) (hblk : blk < w.heap.size) (hsz : ss.length < 4611686018427387904) :
    Calls Tryz.prog 169 #[.slice (some ⟨blk, off, none⟩) ss.length cap] w fun e w' =>
      e = .returned (.tuple #[]) ∧ ∃ n os, w' = grow (putRow encStr (Sort.ahead w n) blk off (ss.mergeSort fun x y => decide (x ≤ y)).toArray) os := Any.slices_Sort_string Tryz.lays190 blk off cap ss w hH hblk hsz
theorem Tryz.slices_Sort_string_none (p : Option Addr) (cap : Nat) (w : World) :
    Calls Tryz.prog 169 #[.slice p 0 cap] w fun e w' => e = .returned (.tuple #[]) ∧ w' = w := Any.slices_Sort_string_none Tryz.lays190 p cap w
end Go.Proofs
set_option maxRecDepth 10000
namespace Ab
open Go Go.Proofs Go.Proofs.YtpgjcbeoipldgaaGreat
section
variable {H : Type}
theorem kdStr : kindOf Tryz.prog 9 = .str := by kernel_rfl
theorem kdInt : kindOf Tryz.prog 3 = .int .i64 := by kernel_rfl
theorem kdBool : kindOf Tryz.prog 4 = .bool := by kernel_rfl
theorem kdTerm : kindOf Tryz.prog 25 = .struct [9, 4, 23] := by kernel_rfl
theorem kdTerms : kindOf Tryz.prog 23 = .slice 25 := by kernel_rfl
theorem agTerm : aggK Tryz.prog 25 = true := by unfold aggK; rw [kdTerm]
theorem bulkAll_sum : ∀ ds : List (DataW H), Rows.uptoBulkAll ds = (ds.map Rows.uptoBulk).sum
  | [] => by simp [Rows.uptoBulkAll]
  | d :: ds => by simp [Rows.uptoBulkAll, bulkAll_sum ds]
theorem bulk_pos (d : DataW H) : 1 ≤ Rows.uptoBulk d := by
  cases d with
  | lit l => cases l <;> simp [Rows.uptoBulk]
  | _ => simp [Rows.uptoBulk]
theorem bulk_row {d : DataW H} {ds : List (DataW H)} (h : (d = .nil ∧ ds = []) ∨ ∃ sp, d = .slice ds sp) : (ds.map Rows.uptoBulk).sum + 1 ≤ Rows.uptoBulk d := by
  rcases h with ⟨rfl, rfl⟩ | ⟨sp, rfl⟩
  · simp [Rows.uptoBulk]
  · rw [← bulkAll_sum]; simp only [Rows.uptoBulk]; omega
theorem term_form : ∀ (n : Nat) (d : DataW H) (avs : List AV), toAV Tryz.prog n 25 d = some avs → ∃ t : Term, .agg avs = encT t ∧ t.bulk ≤ Rows.uptoBulk d := by
  intro n
  induction n using Nat.strongRecOn with
  | ind n ih =>
    intro d avs h
    obtain ⟨m, parts, avss, rfl, rfl, hl, hm, rfl⟩ := toAV_struct kdTerm h
    match parts, hl, hm with
    | [d1, d2, d3], _, hm =>
      obtain ⟨h1, h2⟩ := mapM_get hm
      match avss, h1, h2 with
      | [a1, a2, a3], _, h2 =>
        obtain ⟨bs, rfl, rfl⟩ := toAV_str kdStr (h2 0 (by simp) (by simp))
        obtain ⟨b, rfl, rfl⟩ := toAV_bool kdBool (h2 1 (by simp) (by simp))
        obtain ⟨xs, ds, e3, hw, _, hd⟩ := row_form encT Term.bulk Rows.uptoBulk kdTerms (n := m) (fun k d avs hk he => by
          obtain ⟨t, x1, x2⟩ := ih k (by omega) d avs he
          exact ⟨t, by rw [agTerm]; exact x1, x2⟩) (h2 2 (by simp) (by simp))
        simp only [List.getElem_cons_succ, List.getElem_cons_zero] at e3 hd
        subst e3
        have hb := bulk_row (d := d3) hd
        simp only [Rows.uptoBulk, Rows.uptoBulkAll]
        refine ⟨.mk bs b xs, ?_, ?_⟩
        · simp [Term.name, Term.var, Term.args, encTs_map]
        · rw [Term.bulk_mk]; omega
theorem kdPos : kindOf Tryz.prog 48 = .slice 3 := by kernel_rfl
theorem agInt : aggK Tryz.prog 3 = false := by unfold aggK; rw [kdInt]
theorem pos_form (n : Nat) (d : DataW H) (avs : List AV) (h : toAV Tryz.prog n 48 d = some avs) : ∃ p : List Int, avs = [.sl .none (encP p)] ∧ p.length ≤ Rows.uptoBulk d := by
  obtain ⟨xs, ds, e3, hw, hl, hd⟩ := row_form (fun i : Int => AV.int .i64 i) (fun _ => 1) Rows.uptoBulk kdPos (n := n) (fun k d avs _ he => by
    obtain ⟨i, rfl, rfl⟩ := toAV_int kdInt he
    exact ⟨i, by rw [agInt]; rfl, bulk_pos _⟩) h
  have hb := bulk_row hd
  have h1 : xs.length ≤ (xs.map fun _ : Int => 1).sum := by
    clear hw hl e3
    induction xs with
    | nil => simp
    | cons x xs ih => simp only [List.map_cons, List.sum_cons, List.length_cons]; omega
  exact ⟨xs, e3, by omega⟩
end
end Ab
namespace Ab
open Go
theorem firstErr_drop : ∀ (ts : List Term) (i : Nat), firstErr (ts.take i) = 0 → firstErr ts = firstErr (ts.drop i)
  | ts, 0, _ => rfl
  | [], _ + 1, _ => rfl
  | a :: r, i + 1, h => by
    simp only [List.take_succ_cons, firstErr] at h
    by_cases h0 : checkP a = 0
    · simp only [h0, if_true] at h
      simp only [firstErr, h0, if_true, List.drop_succ_cons]
      exact firstErr_drop r i h
    · rw [if_neg h0] at h; exact absurd h h0
theorem firstErr_take : ∀ (ts : List Term) (i : Nat) (hi : i < ts.length), firstErr (ts.take i) = 0 → checkP ts[i] = 0 → firstErr (ts.take (i + 1)) = 0
  | [], _, hi, _, _ => absurd hi (by simp)
  | a :: r, 0, _, _, h => by have h' : checkP a = 0 := h
                             simp [firstErr, h']
  | a :: r, i + 1, hi, h, h2 => by
    simp only [List.take_succ_cons, firstErr] at h ⊢
    by_cases h0 : checkP a = 0
    · simp only [h0, if_true] at h ⊢; exact firstErr_take r i (by simpa using hi) h (by simpa using h2)
    · rw [if_neg h0] at h; exact absurd h h0
theorem firstErr_iff : ∀ ts : List Term, firstErr ts = 0 ↔ ∀ t, t ∈ ts → checkP t = 0
  | [] => by simp [firstErr]
  | t :: r => by
    have ih := firstErr_iff r
    unfold firstErr
    by_cases h : checkP t = 0 <;> simp [h, ih]
end Ab
set_option maxRecDepth 10000
namespace Ab
open Go Go.Proofs
def markedP (s : List UInt8) : Bool := decide (s.getLast? = some 35)
theorem trim_marked (s : List UInt8) : trimSuffix s [35] = if markedP s then s.take (s.length - 1) else s := by
  unfold trimSuffix markedP
  rcases Nat.eq_zero_or_pos s.length with h0 | h0
  · have hn : s = [] := List.eq_nil_of_length_eq_zero h0
    subst hn; simp
  · have hd : s.drop (s.length - 1) = [s[s.length - 1]'(by omega)] := by
      rw [List.drop_eq_getElem_cons (show s.length - 1 < s.length by omega), List.drop_eq_nil_of_le (by omega)]
    have hgl : s.getLast? = some (s[s.length - 1]'(by omega)) := by rw [List.getLast?_eq_getElem?, List.getElem?_eq_getElem]
    have h1 : 1 ≤ s.length := h0
    simp [hd, hgl, h1]
theorem marked_pos (s : List UInt8) (h : markedP s = true) : 0 < s.length := by
  cases s with
  | nil => simp [markedP] at h
  | cons a r => simp
theorem all_not_any (s : List UInt8) : (!s.any fun c => !inNameB c) = s.all inNameB := by simp [List.not_any_eq_all_not]
def cmpI (a b : Int) : Int := if a < b then -1 else if b < a then 1 else 0
theorem compareBytes_drop : ∀ (a b : List UInt8) (i : Nat), a.take i = b.take i → i ≤ a.length → i ≤ b.length → Lib.compareBytes a b = Lib.compareBytes (a.drop i) (b.drop i)
  | a, b, 0, _, _, _ => rfl
  | [], _, _ + 1, _, h, _ => by simp at h
  | _ :: _, [], _ + 1, _, _, h => by simp at h
  | x :: a, y :: b, i + 1, h, h1, h2 => by
    simp only [List.take_succ_cons, List.cons.injEq] at h
    rw [List.drop_succ_cons, List.drop_succ_cons, ← compareBytes_drop a b i h.2 (by simpa using h1) (by simpa using h2)]
    rw [h.1]
    have : ¬ y < y := by simp
    conv => lhs; unfold Lib.compareBytes
    simp [this]
theorem cmpI_len (a b : Nat) : (cmpI a b = 0 ↔ a = b) ∧ (¬ cmpI a b = 0 → ∀ r : Int, (if a < b then -1 else if b < a then 1 else r) = cmpI a b) := by
  unfold cmpI
  constructor
  · split
    · simp; omega
    · split
      · simp; omega
      · simp; omega
  · intro h r
    rcases Nat.lt_trichotomy a b with hl | hl | hl
    · simp [hl]
    · simp [hl] at h
    · have h2 : ¬ a < b := by omega
      simp [hl, h2]
theorem compareBytes_eq : ∀ a b : List UInt8, Lib.compareBytes a b = 0 ↔ a = b
  | [], [] => by simp [Lib.compareBytes]
  | [], _ :: _ => by simp [Lib.compareBytes]
  | _ :: _, [] => by simp [Lib.compareBytes]
  | a :: ar, b :: bs => by
    have ih := compareBytes_eq ar bs
    unfold Lib.compareBytes
    by_cases h1 : a < b
    · simp [h1]; intro e; subst e; exact absurd h1 (by simp)
    · by_cases h2 : b < a
      · simp [h1, h2]; intro e; subst e; exact absurd h2 (by simp)
      · have : a = b := by
          apply UInt8.le_antisymm
          · simpa using h2
          · simpa using h1
        simp [h1, h2, this, ih]
def cmpC (n : List UInt8) (v : Bool) (k : Nat) (m : List UInt8) (u : Bool) (j : Nat) (rest : Int) : Int :=
  if v ≠ u then (if v then -1 else 1) else if Lib.compareBytes n m ≠ 0 then Lib.compareBytes n m else if k < j then -1 else if j < k then 1 else rest
def cmpTs : List Term → List Term → Int
  | .mk n v xs :: r, .mk m u ys :: r' => if cmpC n v xs.length m u ys.length (cmpTs xs ys) ≠ 0 then cmpC n v xs.length m u ys.length (cmpTs xs ys) else cmpTs r r'
  | _, _ => 0
def cmpT (a b : Term) : Int := cmpC a.name a.var a.args.length b.name b.var b.args.length (cmpTs a.args b.args)
theorem cmpTs_cons (x y : Term) (r r' : List Term) : cmpTs (x :: r) (y :: r') = if cmpT x y ≠ 0 then cmpT x y else cmpTs r r' := by
  cases x; cases y; simp only [cmpTs, cmpT, Term.name, Term.var, Term.args]; rfl
theorem cmpTs_nil (ys : List Term) : cmpTs [] ys = 0 := by cases ys <;> simp [cmpTs]
theorem cmpTs_drop : ∀ (xs ys : List Term) (i : Nat), (∀ j (h1 : j < xs.length) (h2 : j < ys.length), j < i → cmpT xs[j] ys[j] = 0) → xs.length = ys.length → cmpTs xs ys = cmpTs (xs.drop i) (ys.drop i)
  | xs, ys, 0, _, _ => rfl
  | [], [], _ + 1, _, _ => rfl
  | [], _ :: _, _ + 1, _, h => by simp at h
  | _ :: _, [], _ + 1, _, h => by simp at h
  | x :: xs, y :: ys, i + 1, h, hl => by
    have h0 := h 0 (by simp) (by simp) (by omega)
    simp only [List.getElem_cons_zero] at h0
    rw [cmpTs_cons, List.drop_succ_cons, List.drop_succ_cons, if_neg (by omega)]
    refine cmpTs_drop xs ys i (fun j h1 h2 hj => ?_) (by simpa using hl)
    have h3 := h (j + 1) (by simp; omega) (by simp; omega) (by omega)
    simp only [List.getElem_cons_succ] at h3; exact h3
theorem cmpTs_iff : ∀ (xs ys : List Term), xs.length = ys.length → (cmpTs xs ys = 0 ↔ xs = ys)
  | [], [], _ => by simp [cmpTs]
  | [], _ :: _, h => by simp at h
  | _ :: _, [], h => by simp at h
  | .mk n v xs :: r, .mk m u ys :: r', h => by
    have h1 := cmpTs_iff r r' (by simpa using h)
    have h2 := cmpTs_iff xs ys
    have h3 := compareBytes_eq n m
    unfold cmpTs cmpC
    have h0 : Lib.compareBytes m m = 0 := (compareBytes_eq m m).2 rfl
    by_cases hv : v = u
    · by_cases hn : n = m
      · rcases Nat.lt_trichotomy xs.length ys.length with hl | hl | hl
        · have : ¬ xs = ys := fun e => by rw [e] at hl; omega
          simp [hv, h3.2 hn, hl, this]
        · have h2 := h2 hl
          simp only [hv, h3.2 hn, hl, Nat.lt_irrefl, if_false, ne_eq, not_true_eq_false, hn, List.cons.injEq, Term.mk.injEq, true_and, and_assoc]
          by_cases hc : cmpTs xs ys = 0
          · have e := h2.1 hc; simp [h0, h1, e, e ▸ hc]
          · have : ¬ xs = ys := fun e => hc (h2.2 e)
            simp [h0, hc, this]
        · have : ¬ xs = ys := fun e => by rw [e] at hl; omega
          have h4 : ¬ xs.length < ys.length := by omega
          simp [hv, h3.2 hn, hl, h4, this]
      · have h3' : ¬ Lib.compareBytes n m = 0 := fun e => hn (h3.1 e)
        simp [hv, h3', hn]
    · cases v <;> cases u <;> simp_all
theorem cmpT_iff (a b : Term) : cmpT a b = 0 ↔ a = b := by
  have := cmpTs_iff [a] [b] rfl
  rw [cmpTs_cons] at this
  simp only [cmpTs, List.cons.injEq, and_true] at this
  rw [← this]
  by_cases h : cmpT a b = 0 <;> simp [h]
theorem letter_ac (c : Int) (H : List AObj) : ACall Tryz.prog 151 [.int .u8 c] H (fun r H' => r = .bool (inName c) ∧ H' = H) := by
  refine ACall_V (H.length) 32 [.tmp 2] Tryz.func151 rfl rfl rfl ?_
  simp only [push_cast, Nat.reduceAdd, Nat.reduceSub, Nat.reduceMul, Nat.reduceLT, Nat.reduceLeDiff, Nat.reduceEqDiff, Int.reduceToNat, ↓reduceIte]
  unfold inName
  repeat' first | refine ⟨by omega, ?_⟩ | refine cI (fun _ => ?_) (fun _ => ?_)
  all_goals (rw [Bool.eq_iff_iff]; simp; omega)
theorem letters_ac (s : List UInt8) (hlen : s.length < 1099511627776) (H : List AObj) : ACall Tryz.prog 118 [.str s] H (fun r H' => r = .bool (s.all inNameB) ∧ H' = H) := by
  refine ACall_V (H.length) 14 [.tmp 2] Tryz.func118 rfl rfl rfl ?_
  simp only [push_cast, Nat.reduceAdd, Nat.reduceSub, Nat.reduceMul, Nat.reduceLT, Nat.reduceLeDiff, Nat.reduceEqDiff, Int.reduceToNat, ↓reduceIte]
  refine AW_loopW (maskG 15 [0, 4, 0]) (fun (i : Nat) => [(6, .int .i64 i)]) (fun _ => H) (fun i => i ≤ s.length ∧ (s.take i).all inNameB = true) (fun i => s.length - i) 0 ⟨Nat.zero_le _, by simp⟩ (by simp only [push_cast, Nat.reduceAdd, Nat.reduceSub, Nat.reduceMul, Nat.reduceLT, Nat.reduceLeDiff, Nat.reduceEqDiff, Int.reduceToNat, ↓reduceIte]) (fun i hi => ?_)
  simp only [push_cast, Nat.reduceAdd, Nat.reduceSub, Nat.reduceMul, Nat.reduceLT, Nat.reduceLeDiff, Nat.reduceEqDiff, Int.reduceToNat, ↓reduceIte]
  refine cI (fun h => ?_) (fun h => ?_)
  · repeat refine ⟨by omega, ?_⟩
    refine (letter_ac _ _).to ?_
    simp only [push_cast, Nat.reduceAdd, Nat.reduceSub, Nat.reduceMul, Nat.reduceLT, Nat.reduceLeDiff, Nat.reduceEqDiff, Int.reduceToNat, ↓reduceIte]
    refine cI (fun hb => ?_) (fun hb => ?_)
    · repeat' first | refine ⟨by omega, ?_⟩ | refine cI (fun _ => ?_) (fun _ => ?_)
      exact loopW_n (i + 1) ⟨by omega, all_take_true hi.2 (by omega) hb⟩ (by omega) (by simp only [push_cast, Nat.reduceAdd, Nat.reduceSub, Nat.reduceMul, Nat.reduceLT, Nat.reduceLeDiff, Nat.reduceEqDiff, Int.reduceToNat, ↓reduceIte])
    · rw [all_get (p := inNameB) (i := i) (by omega) (by simpa [inNameB] using hb)]
  · have hs : s.take i = s := List.take_of_length_le (by omega)
    rw [hs] at hi
    rw [hi.2]
theorem markedR_ac (s : List UInt8) (hlen : s.length < 1099511627776) (H : List AObj) : ACall Tryz.prog 117 [.str s] H (fun r H' => r = .bool (markedP s) ∧ H' = H) := by
  refine ACall_V (H.length) 12 [.tmp 2] Tryz.func117 rfl rfl rfl ?_
  simp only [push_cast, Nat.reduceAdd, Nat.reduceSub, Nat.reduceMul, Nat.reduceLT, Nat.reduceLeDiff, Nat.reduceEqDiff, Int.reduceToNat, ↓reduceIte]
  refine cI (fun h => ?_) (fun h => ?_)
  · subst h; simp [markedP]
  · have h0 : 0 < s.length := List.length_pos_iff.2 h
    repeat refine ⟨by omega, ?_⟩
    have hgl : s.getLast? = some (s[s.length - 1]'(by omega)) := by rw [List.getLast?_eq_getElem?, List.getElem?_eq_getElem]
    unfold markedP
    rw [hgl, Bool.eq_iff_iff, decide_eq_true_iff, decide_eq_true_iff]
    constructor
    · intro h
      have : (s[s.length - 1]'(by omega)).toNat = (35 : UInt8).toNat := by show _ = 35; omega
      rw [UInt8.toNat_inj.1 this]
    · intro h; injection h with h; rw [h]; rfl
theorem isNameR_ac (s : List UInt8) (m : Bool) (hlen : s.length < 1099511627776) (H : List AObj) : ACall Tryz.prog 71 [.str s, .bool m] H (fun r H' => r = .bool (isNameP s m) ∧ H' = H) := by
  have ht := trim_marked s
  refine ACall_V (H.length) 22 [.tmp 4] Tryz.func71 rfl rfl rfl ?_
  simp only [push_cast, Nat.reduceAdd, Nat.reduceSub, Nat.reduceMul, Nat.reduceLT, Nat.reduceLeDiff, Nat.reduceEqDiff, Int.reduceToNat, ↓reduceIte]
  refine cI (fun h => ?_) (fun h => ?_)
  · have h24 : ¬ s.length ≤ 24 := by omega
    simp [isNameP, h24]
  · have h24 : s.length ≤ 24 := by omega
    refine cI (fun hm => (markedR_ac s hlen _).to ?_) (fun hm => ?_)
    · simp only [push_cast, Nat.reduceAdd, Nat.reduceSub, Nat.reduceMul, Nat.reduceLT, Nat.reduceLeDiff, Nat.reduceEqDiff, Int.reduceToNat, ↓reduceIte]
      refine cI (fun hk => ?_) (fun hk => ?_)
      · have h0 := marked_pos s hk
        repeat refine ⟨by omega, ?_⟩
        rw [hk] at ht
        simp only [if_true] at ht
        refine cI (fun he => ?_) (fun he => ?_)
        · simp [isNameP, hm, ht, he, h24]
        · refine (letters_ac _ (by simp only [List.length_take]; omega) _).to ?_
          simp only [push_cast, Nat.reduceAdd, Nat.reduceSub, Nat.reduceMul, Nat.reduceLT, Nat.reduceLeDiff, Nat.reduceEqDiff, Int.reduceToNat, ↓reduceIte]
          simp [isNameP, hm, ht, he, h24, all_not_any]
      · simp only [Bool.not_eq_true] at hk
        rw [hk] at ht
        simp at ht
        refine cI (fun he => ?_) (fun he => ?_)
        · subst he; simp [isNameP, trimSuffix]
        · refine (letters_ac _ (by omega) _).to ?_
          simp only [push_cast, Nat.reduceAdd, Nat.reduceSub, Nat.reduceMul, Nat.reduceLT, Nat.reduceLeDiff, Nat.reduceEqDiff, Int.reduceToNat, ↓reduceIte]
          simp [isNameP, hm, ht, he, h24, all_not_any]
    · refine cI (fun he => ?_) (fun he => ?_)
      · simp [isNameP, hm, he, h24]
      · refine (letters_ac _ (by omega) _).to ?_
        simp only [push_cast, Nat.reduceAdd, Nat.reduceSub, Nat.reduceMul, Nat.reduceLT, Nat.reduceLeDiff, Nat.reduceEqDiff, Int.reduceToNat, ↓reduceIte]
        simp [isNameP, hm, he, h24, all_not_any]
theorem sizeR_ac (t : Term) : t.bulk ≤ 1099511627776 → ∀ H, ACall Tryz.prog 69 [encT t] H (fun r H' => r = .int .i64 t.size ∧ H' = H) := by
  induction t using Term.ind with | _ n v xs ih
  intro hb H
  have hs := (Term.mk n v xs).size_le
  have hlen := Term.len_le (n := n) (v := v) (xs := xs)
  rw [Term.size_mk] at hs ⊢
  refine ACall_W (H.length) 18 [.tmp 2] Tryz.func69 rfl rfl rfl ?_
  simp only [push_cast, Nat.reduceAdd, Nat.reduceSub, Nat.reduceMul, Nat.reduceLT, Nat.reduceLeDiff, Nat.reduceEqDiff, Int.reduceToNat, ↓reduceIte]
  refine AW_loopW (maskG 19 [3, 3, 0, 0]) (fun (i : Nat) => [(9, .int .i64 i), (3, .int .i64 (1 + ((xs.take i).map Term.size).sum : Nat))]) (fun _ => H) (fun i => i ≤ xs.length) (fun i => xs.length - i) 0 (Nat.zero_le _) (by simp only [push_cast, Nat.reduceAdd, Nat.reduceSub, Nat.reduceMul, Nat.reduceLT, Nat.reduceLeDiff, Nat.reduceEqDiff, Int.reduceToNat, ↓reduceIte]; simp) (fun i hi => ?_)
  simp only [push_cast, Nat.reduceAdd, Nat.reduceSub, Nat.reduceMul, Nat.reduceLT, Nat.reduceLeDiff, Nat.reduceEqDiff, Int.reduceToNat, ↓reduceIte]
  refine cI (fun h => ⟨by omega, (ih _ (List.getElem_mem _) (arg_bulk hb i (by omega)) _).to ?_⟩) (fun h => ?_)
  · have e := take_sum Term.size xs i (by omega)
    have hle := take_sum_le Term.size xs (i + 1)
    simp only [push_cast, Nat.reduceAdd, Nat.reduceSub, Nat.reduceMul, Nat.reduceLT, Nat.reduceLeDiff, Nat.reduceEqDiff, Int.reduceToNat, ↓reduceIte]
    repeat' first | refine ⟨by omega, ?_⟩ | refine cI (fun _ => ?_) (fun _ => ?_)
    exact loopW_n (i + 1) (by omega) (by omega) (by simp only [push_cast, Nat.reduceAdd, Nat.reduceSub, Nat.reduceMul, Nat.reduceLT, Nat.reduceLeDiff, Nat.reduceEqDiff, Int.reduceToNat, ↓reduceIte]; omega)
  · simp only [push_cast, Nat.reduceAdd, Nat.reduceSub, Nat.reduceMul, Nat.reduceLT, Nat.reduceLeDiff, Nat.reduceEqDiff, Int.reduceToNat, ↓reduceIte, List.take_of_length_le (show xs.length ≤ i by omega)]
theorem depthR_ac (t : Term) : t.bulk ≤ 1099511627776 → ∀ H, ACall Tryz.prog 70 [encT t] H (fun r H' => r = .int .i64 t.depth ∧ H' = H) := by
  induction t using Term.ind with | _ n v xs ih
  intro hb H
  have hs := (Term.mk n v xs).size_le
  have hd := (Term.mk n v xs).depth_le
  have hlen := Term.len_le (n := n) (v := v) (xs := xs)
  rw [Term.depth_mk] at hd ⊢
  refine ACall_W (H.length) 19 [.tmp 2] Tryz.func70 rfl rfl rfl ?_
  simp only [push_cast, Nat.reduceAdd, Nat.reduceSub, Nat.reduceMul, Nat.reduceLT, Nat.reduceLeDiff, Nat.reduceEqDiff, Int.reduceToNat, ↓reduceIte]
  refine AW_loopW (maskG 20 [3, 3, 0, 0]) (fun (i : Nat) => [(9, .int .i64 i), (3, .int .i64 (((xs.take i).map Term.depth).foldl max 0 : Nat))]) (fun _ => H) (fun i => i ≤ xs.length ∧ ((xs.take i).map Term.depth).foldl max 0 ≤ 1099511627776) (fun i => xs.length - i) 0 ⟨Nat.zero_le _, by simp⟩ (by simp only [push_cast, Nat.reduceAdd, Nat.reduceSub, Nat.reduceMul, Nat.reduceLT, Nat.reduceLeDiff, Nat.reduceEqDiff, Int.reduceToNat, ↓reduceIte]; simp) (fun i hi => ?_)
  simp only [push_cast, Nat.reduceAdd, Nat.reduceSub, Nat.reduceMul, Nat.reduceLT, Nat.reduceLeDiff, Nat.reduceEqDiff, Int.reduceToNat, ↓reduceIte]
  refine cI (fun h => ⟨by omega, (ih _ (List.getElem_mem _) (arg_bulk hb i (by omega)) _).to ?_⟩) (fun h => ?_)
  · have e := take_depth xs i (by omega)
    have hdx := (xs[i]'(by omega)).depth_le
    have hsx := (xs[i]'(by omega)).size_le
    have hbx := arg_bulk hb i (by omega)
    simp only [push_cast, Nat.reduceAdd, Nat.reduceSub, Nat.reduceMul, Nat.reduceLT, Nat.reduceLeDiff, Nat.reduceEqDiff, Int.reduceToNat, ↓reduceIte]
    repeat' first | refine ⟨by omega, ?_⟩ | refine cI (fun _ => ?_) (fun _ => ?_)
    exact loopW_n (i + 1) (by omega) (by omega) (by simp only [push_cast, Nat.reduceAdd, Nat.reduceSub, Nat.reduceMul, Nat.reduceLT, Nat.reduceLeDiff, Nat.reduceEqDiff, Int.reduceToNat, ↓reduceIte]; omega)
  · simp only [push_cast, Nat.reduceAdd, Nat.reduceSub, Nat.reduceMul, Nat.reduceLT, Nat.reduceLeDiff, Nat.reduceEqDiff, Int.reduceToNat, ↓reduceIte, List.take_of_length_le (show xs.length ≤ i by omega)]
    omega
theorem formedR_ac (t : Term) : t.bulk ≤ 1099511627775 → ∀ H, ACall Tryz.prog 68 [encT t] H (fun r H' => r = .bool (formedP t) ∧ H' = H) := by
  induction t using Term.ind with | _ n v xs ih
  intro hb H
  have hlen := Term.len_le (n := n) (v := v) (xs := xs)
  have hnl := Term.name_le (n := n) (v := v) (xs := xs)
  rw [formedP_mk]
  refine ACall_V (H.length) 36 [.tmp 2] Tryz.func68 rfl rfl rfl ?_
  simp only [push_cast, Nat.reduceAdd, Nat.reduceSub, Nat.reduceMul, Nat.reduceLT, Nat.reduceLeDiff, Nat.reduceEqDiff, Int.reduceToNat, ↓reduceIte]
  refine cI (fun hv => (isNameR_ac n _ (by omega) _).to ?_) (fun hv => (isNameR_ac n _ (by omega) _).to ?_)
  · simp only [push_cast, Nat.reduceAdd, Nat.reduceSub, Nat.reduceMul, Nat.reduceLT, Nat.reduceLeDiff, Nat.reduceEqDiff, Int.reduceToNat, ↓reduceIte]
    refine cI (fun hn => ?_) (fun hn => ?_)
    · simp [hv, hn]
    · simp [hv, hn]
  · simp only [push_cast, Nat.reduceAdd, Nat.reduceSub, Nat.reduceMul, Nat.reduceLT, Nat.reduceLeDiff, Nat.reduceEqDiff, Int.reduceToNat, ↓reduceIte]
    refine cI (fun hn => cI (fun h8 => ?_) (fun h8 => ?_)) (fun hn => ?_)
    · have h8 : ¬ xs.length ≤ 8 := by omega
      simp [hv, h8]
    · have h8 : xs.length ≤ 8 := by omega
      refine AW_loopW (maskG 37 [27, 0, 0]) (fun (i : Nat) => [(29, .int .i64 i)]) (fun _ => H) (fun i => i ≤ xs.length ∧ (xs.take i).all formedP = true) (fun i => xs.length - i) 0 ⟨Nat.zero_le _, by simp⟩ (by simp only [push_cast, Nat.reduceAdd, Nat.reduceSub, Nat.reduceMul, Nat.reduceLT, Nat.reduceLeDiff, Nat.reduceEqDiff, Int.reduceToNat, ↓reduceIte]) (fun i hi => ?_)
      simp only [push_cast, Nat.reduceAdd, Nat.reduceSub, Nat.reduceMul, Nat.reduceLT, Nat.reduceLeDiff, Nat.reduceEqDiff, Int.reduceToNat, ↓reduceIte]
      refine cI (fun h => ?_) (fun h => ?_)
      · repeat refine ⟨by omega, ?_⟩
        refine (ih _ (List.getElem_mem _) (arg_bulk hb i (by omega)) _).to ?_
        simp only [push_cast, Nat.reduceAdd, Nat.reduceSub, Nat.reduceMul, Nat.reduceLT, Nat.reduceLeDiff, Nat.reduceEqDiff, Int.reduceToNat, ↓reduceIte]
        refine cI (fun hf => ?_) (fun hf => ?_)
        · repeat' first | refine ⟨by omega, ?_⟩ | refine cI (fun _ => ?_) (fun _ => ?_)
          exact loopW_n (i + 1) ⟨by omega, all_take_true hi.2 (by omega) hf⟩ (by omega) (by simp only [push_cast, Nat.reduceAdd, Nat.reduceSub, Nat.reduceMul, Nat.reduceLT, Nat.reduceLeDiff, Nat.reduceEqDiff, Int.reduceToNat, ↓reduceIte])
        · rw [all_get (p := formedP) (i := i) (by omega) (by simpa using hf)]; simp [hv]
      · have hs : xs.take i = xs := List.take_of_length_le (by omega)
        rw [hs] at hi
        rw [hi.2]; simp [hv, h8, hn]
    · simp [hv, hn]
theorem checkR_ac (t : Term) (hb : t.bulk ≤ 1099511627775) (H : List AObj) : ACall Tryz.prog 25 [encT t] H (fun r H' => r = .int .i64 (checkP t) ∧ H' = H) := by
  refine ACall_V (H.length) 13 [.tmp 2] Tryz.func25 rfl rfl rfl ?_
  simp only [push_cast, Nat.reduceAdd, Nat.reduceSub, Nat.reduceMul, Nat.reduceLT, Nat.reduceLeDiff, Nat.reduceEqDiff, Int.reduceToNat, ↓reduceIte]
  unfold checkP fitsP
  refine (formedR_ac t hb _).to ?_
  simp only [push_cast, Nat.reduceAdd, Nat.reduceSub, Nat.reduceMul, Nat.reduceLT, Nat.reduceLeDiff, Nat.reduceEqDiff, Int.reduceToNat, ↓reduceIte]
  refine cI (fun hf => (sizeR_ac t (by omega) _).to ?_) (fun hf => ?_)
  · simp only [push_cast, Nat.reduceAdd, Nat.reduceSub, Nat.reduceMul, Nat.reduceLT, Nat.reduceLeDiff, Nat.reduceEqDiff, Int.reduceToNat, ↓reduceIte]
    refine cI (fun h => ?_) (fun h => (depthR_ac t (by omega) _).to ?_)
    · have h4 : ¬ t.size ≤ 4000 := by omega
      simp [hf, h4]
    · simp only [push_cast, Nat.reduceAdd, Nat.reduceSub, Nat.reduceMul, Nat.reduceLT, Nat.reduceLeDiff, Nat.reduceEqDiff, Int.reduceToNat, ↓reduceIte]
      have h4 : t.size ≤ 4000 := by omega
      refine cI (fun h => ?_) (fun h => ?_)
      · have h2 : ¬ t.depth ≤ 200 := by omega
        simp [hf, h4, h2]
      · have h2 : t.depth ≤ 200 := by omega
        simp [hf, h4, h2]
  · simp [hf]
end Ab
set_option maxRecDepth 10000
namespace Ab
open Go Go.Proofs
theorem cmpInts_ac (a b : Int) (H : List AObj) : ACall Tryz.prog 110 [.int .i64 a, .int .i64 b] H (fun r H' => r = .int .i64 (cmpI a b) ∧ H' = H) := by
  refine ACall_V (H.length) 9 [.tmp 4] Tryz.func110 rfl rfl rfl ?_
  simp only [push_cast, Nat.reduceAdd, Nat.reduceSub, Nat.reduceMul, Nat.reduceLT, Nat.reduceLeDiff, Nat.reduceEqDiff, Int.reduceToNat, ↓reduceIte]
  unfold cmpI
  repeat' first | refine ⟨by omega, ?_⟩ | refine cI (fun _ => ?_) (fun _ => ?_)
  all_goals simp [*]
theorem cmpNames_ac (a b : List UInt8) (ha : a.length < 1099511627776) (hb : b.length < 1099511627776) (H : List AObj) : ACall Tryz.prog 72 [.str a, .str b] H (fun r H' => r = .int .i64 (Lib.compareBytes a b) ∧ H' = H) := by
  refine ACall_V (H.length) 34 [.tmp 4] Tryz.func72 rfl rfl rfl ?_
  simp only [push_cast, Nat.reduceAdd, Nat.reduceSub, Nat.reduceMul, Nat.reduceLT, Nat.reduceLeDiff, Nat.reduceEqDiff, Int.reduceToNat, ↓reduceIte]
  refine AW_loopW (maskG 36 [0, 0, 8, 0]) (fun (i : Nat) => [(11, .int .i64 i)]) (fun _ => H) (fun i => i ≤ a.length ∧ i ≤ b.length ∧ a.take i = b.take i) (fun i => a.length - i) 0 ⟨Nat.zero_le _, Nat.zero_le _, by simp⟩ (by simp only [push_cast, Nat.reduceAdd, Nat.reduceSub, Nat.reduceMul, Nat.reduceLT, Nat.reduceLeDiff, Nat.reduceEqDiff, Int.reduceToNat, ↓reduceIte]) (fun i hi => ?_)
  simp only [push_cast, Nat.reduceAdd, Nat.reduceSub, Nat.reduceMul, Nat.reduceLT, Nat.reduceLeDiff, Nat.reduceEqDiff, Int.reduceToNat, ↓reduceIte]
  refine cI (fun h => ?_) (fun h => ?_)
  · have hil : i < a.length ∧ i < b.length := by omega
    apply AW_drawE [some 14, some 15, some 16, some 17, some 18, some 19, some 20] [([], _)] [none, none, none, none, none, none, none] 0 [(0, [], [0]), (1, [], [5]), (2, [], [14, 0]), (3, [], [1]), (4, [], [5]), (5, [], [17, 0]), (6, [], [16, 2])] [_, _, _, _, _, _, _]
    case' hm => exact dr
    case' hn => rfl
    case' hok => rfl
    case' hlen => rfl
    case' hd => rfl
    case' h0 => rfl
    case' hstep =>
     simp only [DAllG, push_cast, Option.isSome_some, Option.isSome_none]
     repeat' apply And.intro
     all_goals (apply DOne_V; simp only [push_cast, Nat.reduceAdd, Nat.reduceSub, Nat.reduceMul, Nat.reduceLT, Nat.reduceLeDiff, Nat.reduceEqDiff, Int.reduceToNat, ↓reduceIte] <;> first | exact rfl | omega | exact ⟨rfl, rfl⟩ | exact trivial | exact ⟨by omega, rfl⟩ | exact ⟨by omega, by omega, rfl⟩ | exact ⟨by omega, rfl, rfl⟩ | exact ⟨by omega, by omega, rfl, rfl⟩ | skip)
    case' hQ => skip
    simp only [push_cast, Nat.reduceAdd, Nat.reduceSub, Nat.reduceMul, Nat.reduceLT, Nat.reduceLeDiff, Nat.reduceEqDiff, Int.reduceToNat, ↓reduceIte]
    have hl1 := (a[i]'hil.1).toNat_lt
    have hl2 := (b[i]'hil.2).toNat_lt
    refine cI (fun he => ?_) (fun hne => ?_)
    · repeat' first | refine ⟨by omega, ?_⟩ | refine cI (fun _ => ?_) (fun _ => ?_)
      refine loopW_n (i + 1) ⟨by omega, by omega, ?_⟩ (by omega) (by simp only [push_cast, Nat.reduceAdd, Nat.reduceSub, Nat.reduceMul, Nat.reduceLT, Nat.reduceLeDiff, Nat.reduceEqDiff, Int.reduceToNat, ↓reduceIte])
      have he : (a[i]'hil.1) = (b[i]'hil.2) := UInt8.toNat_inj.1 (by omega)
      rw [List.take_succ_eq_append_getElem hil.1, List.take_succ_eq_append_getElem hil.2, hi.2.2, he]
    · skip
      apply AW_drawE [some 21, some 22, some 23, some 24, some 25, some 26, some 27, some 28, some 29, some 4] [([], _)] [none, none, none, none, none, none, none, none, none, none] 0 [(0, [], [0]), (1, [], [5]), (2, [], [21, 0]), (3, [], [23]), (4, [], [1]), (5, [], [5]), (6, [], [25, 0]), (7, [], [27]), (8, [], [24, 3]), (9, [], [29])] [_, _, _, _, _, _, _, _, _, _]
      case' hm => exact dr
      case' hn => rfl
      case' hok => rfl
      case' hlen => rfl
      case' hd => rfl
      case' h0 => rfl
      case' hstep =>
       simp only [DAllG, push_cast, Option.isSome_some, Option.isSome_none]
       repeat' apply And.intro
       all_goals (apply DOne_V; simp only [push_cast, Nat.reduceAdd, Nat.reduceSub, Nat.reduceMul, Nat.reduceLT, Nat.reduceLeDiff, Nat.reduceEqDiff, Int.reduceToNat, ↓reduceIte] <;> first | exact rfl | omega | exact ⟨rfl, rfl⟩ | exact trivial | exact ⟨by omega, rfl⟩ | exact ⟨by omega, by omega, rfl⟩ | exact ⟨by omega, rfl, rfl⟩ | exact ⟨by omega, by omega, rfl, rfl⟩ | exact ⟨by omega, by omega, rfl⟩ | exact (cmpInts_ac _ _ _).to ⟨rfl, rfl⟩)
      case' hQ => skip
      simp only [push_cast, Nat.reduceAdd, Nat.reduceSub, Nat.reduceMul, Nat.reduceLT, Nat.reduceLeDiff, Nat.reduceEqDiff, Int.reduceToNat, ↓reduceIte]
      rw [compareBytes_drop a b i hi.2.2 hi.1 hi.2.1, List.drop_eq_getElem_cons hil.1, List.drop_eq_getElem_cons hil.2]
      unfold cmpI Lib.compareBytes
      simp only [UInt8.lt_iff_toNat_lt]
      have hne : ¬ (a[i]'hil.1).toNat = (b[i]'hil.2).toNat := by omega
      rcases Nat.lt_or_gt_of_ne hne with h | h
      · have h' : ((a[i]'hil.1).toNat : Int) < (b[i]'hil.2).toNat := by omega
        simp [h]
      · have h' : ¬ (a[i]'hil.1).toNat < (b[i]'hil.2).toNat := by omega
        simp [h, h']
  · refine (cmpInts_ac _ _ _).to ?_
    simp only [push_cast, Nat.reduceAdd, Nat.reduceSub, Nat.reduceMul, Nat.reduceLT, Nat.reduceLeDiff, Nat.reduceEqDiff, Int.reduceToNat, ↓reduceIte]
    rw [compareBytes_drop a b i hi.2.2 hi.1 hi.2.1]
    rcases Nat.lt_or_ge a.length b.length with h | h
    · have hia : i = a.length := by omega
      subst hia
      have hd : 0 < (b.drop a.length).length := by simp; omega
      cases hb2 : b.drop a.length with
      | nil => rw [hb2] at hd; simp at hd
      | cons y r =>
        have h9 : ¬ b.length ≤ a.length := by omega
        simp [cmpI, Lib.compareBytes, h, h9]
    · rcases Nat.lt_or_ge b.length a.length with h2 | h2
      · have hib : i = b.length := by omega
        subst hib
        have hd : 0 < (a.drop b.length).length := by simp; omega
        cases ha2 : a.drop b.length with
        | nil => rw [ha2] at hd; simp at hd
        | cons y r =>
          have h3 : ¬ a.length < b.length := by omega
          simp [cmpI, Lib.compareBytes, h2, h3]
      · have hl : a.length = b.length := by omega
        have hia : i = a.length := by omega
        subst hia
        rw [List.drop_eq_nil_of_le (Nat.le_refl _), List.drop_eq_nil_of_le (by omega)]
        simp [cmpI, Lib.compareBytes, hl]
theorem compareR_ac (s : Term) : ∀ t : Term, s.bulk ≤ 1099511627775 → t.bulk ≤ 1099511627775 → ∀ H, ACall Tryz.prog 56 [encT s, encT t] H (fun r H' => r = .int .i64 (cmpT s t) ∧ H' = H) := by
  induction s using Term.ind with | _ n v xs ih
  rintro ⟨m, u, ys⟩ hb hb2 H
  have hl1 := Term.len_le (n := n) (v := v) (xs := xs)
  have hl2 := Term.len_le (n := m) (v := u) (xs := ys)
  have hn1 := Term.name_le (n := n) (v := v) (xs := xs)
  have hn2 := Term.name_le (n := m) (v := u) (xs := ys)
  have hci := cmpI_len xs.length ys.length
  have hcm : cmpT (.mk n v xs) (.mk m u ys) = cmpC n v xs.length m u ys.length (cmpTs xs ys) := rfl
  rw [hcm]
  refine ACall_V (H.length) 53 [.tmp 4] Tryz.func56 rfl rfl rfl ?_
  simp only [push_cast, Nat.reduceAdd, Nat.reduceSub, Nat.reduceMul, Nat.reduceLT, Nat.reduceLeDiff, Nat.reduceEqDiff, Int.reduceToNat, ↓reduceIte]
  refine cI (fun h1 => ?_) (fun h1 => ?_)
  · have h1 : v = u := by simpa using h1
    refine (cmpNames_ac n m (by omega) (by omega) _).to ?_
    simp only [push_cast, Nat.reduceAdd, Nat.reduceSub, Nat.reduceMul, Nat.reduceLT, Nat.reduceLeDiff, Nat.reduceEqDiff, Int.reduceToNat, ↓reduceIte]
    refine cI (fun h2 => (cmpInts_ac _ _ _).to ?_) (fun h2 => ?_)
    · simp only [push_cast, Nat.reduceAdd, Nat.reduceSub, Nat.reduceMul, Nat.reduceLT, Nat.reduceLeDiff, Nat.reduceEqDiff, Int.reduceToNat, ↓reduceIte]
      refine cI (fun h3 => ?_) (fun h3 => ?_)
      · have hll : xs.length = ys.length := hci.1.1 h3
        refine AW_loopW (maskG 55 [2, 0, 32, 0]) (fun (i : Nat) => [(37, .int .i64 i)]) (fun _ => H ++ [.cells [.str n, .bool v, .sl .none (encTs xs)], .cells [.str m, .bool u, .sl .none (encTs ys)]]) (fun i => i ≤ xs.length ∧ ∀ j (h1 : j < xs.length) (h2 : j < ys.length), j < i → cmpT xs[j] ys[j] = 0) (fun i => xs.length - i) 0 ⟨Nat.zero_le _, fun j h1 h2 h => by omega⟩ (by simp only [push_cast, Nat.reduceAdd, Nat.reduceSub, Nat.reduceMul, Nat.reduceLT, Nat.reduceLeDiff, Nat.reduceEqDiff, Int.reduceToNat, ↓reduceIte]) (fun i hi => ?_)
        simp only [push_cast, Nat.reduceAdd, Nat.reduceSub, Nat.reduceMul, Nat.reduceLT, Nat.reduceLeDiff, Nat.reduceEqDiff, Int.reduceToNat, ↓reduceIte]
        refine cI (fun h => ?_) (fun h => ?_)
        · have hix : i < xs.length := by omega
          have hiy : i < ys.length := by omega
          apply AW_drawE [some 40, some 41, some 42, some 43, some 44, some 45, some 46, some 47, some 48, some 49, some 50, some 8] [([], _)] [none, none, none, none, none, none, none, none, none, none, none, none] 0 [(0, [], [2]), (1, [], [40]), (2, [], [7]), (3, [], [41, 0]), (4, [], [43]), (5, [], [3]), (6, [], [45]), (7, [], [7]), (8, [], [46, 0]), (9, [], [48]), (10, [], [44, 4]), (11, [], [50])] [_, _, _, _, _, _, _, _, _, _, _, _]
          case' hm => exact dr
          case' hn => rfl
          case' hok => rfl
          case' hlen => rfl
          case' hd => rfl
          case' h0 => rfl
          case' hstep =>
           simp only [DAllG, push_cast, Option.isSome_some, Option.isSome_none]
           repeat' apply And.intro
           all_goals (apply DOne_V; simp only [push_cast, Nat.reduceAdd, Nat.reduceSub, Nat.reduceMul, Nat.reduceLT, Nat.reduceLeDiff, Nat.reduceEqDiff, Int.reduceToNat, ↓reduceIte] <;> first | exact rfl | omega | exact ⟨rfl, rfl⟩ | exact trivial | exact ⟨by omega, rfl⟩ | exact ⟨by omega, by omega, rfl⟩ | exact ⟨by omega, rfl, rfl⟩ | exact ⟨by omega, by omega, rfl, rfl⟩ | exact (ih _ (List.getElem_mem hix) (ys[i]'hiy) (arg_bulk hb i hix) (arg_bulk hb2 i hiy) _).to ⟨rfl, rfl⟩)
          case' hQ => skip
          simp only [push_cast, Nat.reduceAdd, Nat.reduceSub, Nat.reduceMul, Nat.reduceLT, Nat.reduceLeDiff, Nat.reduceEqDiff, Int.reduceToNat, ↓reduceIte]
          refine cI (fun h4 => ?_) (fun h4 => ?_)
          · repeat' first | refine ⟨by omega, ?_⟩ | refine cI (fun _ => ?_) (fun _ => ?_)
            refine loopW_n (i + 1) ⟨by omega, fun j j1 j2 hj => ?_⟩ (by omega) (by simp only [push_cast, Nat.reduceAdd, Nat.reduceSub, Nat.reduceMul, Nat.reduceLT, Nat.reduceLeDiff, Nat.reduceEqDiff, Int.reduceToNat, ↓reduceIte])
            rcases Nat.lt_or_ge j i with hj | hj
            · exact hi.2 j j1 j2 hj
            · have hji : j = i := by omega
              subst hji; exact h4
          · have hq : cmpTs xs ys = cmpT (xs[i]'hix) (ys[i]'hiy) := by rw [cmpTs_drop xs ys i hi.2 hll, List.drop_eq_getElem_cons hix, List.drop_eq_getElem_cons hiy, cmpTs_cons, if_pos h4]
            simp [cmpC, h1, h2, hll, hq]
        · have hq : cmpTs xs ys = 0 := by rw [cmpTs_drop xs ys i hi.2 hll, List.drop_eq_nil_of_le (show xs.length ≤ i by omega)]; exact cmpTs_nil _
          simp [cmpC, h1, h2, hll, hq]
      · have h4 := hci.2 h3 (cmpTs xs ys)
        simp only [cmpC, h1, h2, h4, ne_eq, not_true_eq_false, if_false]
    · simp [cmpC, h1, h2]
  · have h1 : ¬ v = u := by simpa using h1
    refine cI (fun hv => ?_) (fun hv => ?_) <;> cases v <;> cases u <;> first | exact absurd rfl h1 | (simp [cmpC]; done) | (simp at hv)
theorem equalR_ac (s t : Term) (h1 : s.bulk ≤ 1099511627775) (h2 : t.bulk ≤ 1099511627775) (H : List AObj) : ACall Tryz.prog 20 [encT s, encT t] H (fun r H' => r = .bool (decide (s = t)) ∧ H' = H) := by
  have he := cmpT_iff s t
  refine ACall_V (H.length) 7 [.tmp 4] Tryz.func20 rfl rfl rfl ?_
  simp only [push_cast, Nat.reduceAdd, Nat.reduceSub, Nat.reduceMul, Nat.reduceLT, Nat.reduceLeDiff, Nat.reduceEqDiff, Int.reduceToNat, ↓reduceIte]
  refine (compareR_ac s t h1 h2 _).to ?_
  simp only [push_cast, Nat.reduceAdd, Nat.reduceSub, Nat.reduceMul, Nat.reduceLT, Nat.reduceLeDiff, Nat.reduceEqDiff, Int.reduceToNat, ↓reduceIte, he]
end Ab
set_option maxRecDepth 10000
namespace Ab
open Go Go.Proofs
theorem Forget.row (t : Tok) {xs ys : List AV} (hl : xs.length = ys.length) (h : ForgetL (flat xs) (flat ys)) : Forget (.sl t xs) (.sl .none ys) := fun C x hx => by
  obtain ⟨h1, h2⟩ := ForgetL.spec h
  cases hx with
  | sl _ _ a n c f hn hc hrow hrel htok =>
    refine .sl .none ys a n c f (hn.trans hl) hc (fun hne => ?_) (fun j hj => h2 j (by omega) hj _ _ (hrel j (by omega))) trivial
    obtain ⟨b, o, ha, hr⟩ := hrow (fun e => hne (List.eq_nil_of_length_eq_zero (by rw [← h1, e]; rfl)))
    exact ⟨b, o, ha, h1 ▸ hr⟩
end Ab
namespace Ab
open Go Go.Proofs
def insAt (l : List (List UInt8)) (s : List UInt8) : Nat := (l.takeWhile fun x => decide (Lib.compareBytes x s < 0)).length
def insertP (l : List (List UInt8)) (s : List UInt8) : List (List UInt8) := if l[insAt l s]? = some s then l else l.take (insAt l s) ++ [s] ++ l.drop (insAt l s)
theorem insertP_length (l : List (List UInt8)) (s : List UInt8) : (insertP l s).length ≤ l.length + 1 := by
  unfold insertP
  split
  · omega
  · simp; omega
theorem mem_insertP (l : List (List UInt8)) (s v : List UInt8) : v ∈ insertP l s ↔ v ∈ l ∨ v = s := by
  unfold insertP
  split
  · rename_i h
    have := List.mem_of_getElem? h
    constructor
    · exact .inl
    · rintro (h | rfl)
      · exact h
      · exact this
  · conv => rhs; rw [← List.take_append_drop (insAt l s) l]
    simp only [List.mem_append, List.mem_singleton]
    constructor
    · rintro ((h | h) | h)
      · exact .inl (.inl h)
      · exact .inr h
      · exact .inl (.inr h)
    · rintro ((h | h) | h)
      · exact .inl (.inl h)
      · exact .inr h
      · exact .inl (.inr h)
def imageP (σ : List (List UInt8 × Term)) (v : List UInt8) : Term := ((σ.find? fun b => decide (b.1 = v)).map (·.2)).getD (.mk v true [])
def applyP (σ : List (List UInt8 × Term)) : Term → Term
  | .mk n u xs => if u then imageP σ n else .mk n false (xs.map (applyP σ))
theorem applyP_mk (σ : List (List UInt8 × Term)) (n : List UInt8) (u : Bool) (xs : List Term) : applyP σ (.mk n u xs) = if u then imageP σ n else .mk n false (xs.map (applyP σ)) := by simp [applyP]
end Ab
set_option maxRecDepth 10000
namespace Ab
open Go Go.Proofs
@[reducible] def encN (l : List (List UInt8)) : List AV := encL AV.str l
theorem uniN (l : List (List UInt8)) : Uni (0 + 1) (encN l) = True := eq_true (uni_encL (enc := AV.str) (k := 1) (fun _ => rfl) l)
theorem scN_ (n : Nat) (l : List (List UInt8)) : ScopedL n (encN l) = True := eq_true (scoped_encL (fun x => by simp [Scoped]) l)
attribute [push_cast] uniN scN_
@[reducible] def encBd (b : List UInt8 × Term) : AV := .agg [.str b.1, .str b.2.name, .bool b.2.var, .sl .none (encTs b.2.args)]
theorem uniS (l : List (List UInt8 × Term)) : Uni (3 + 1) (encL encBd l) = True := eq_true (uni_encL (enc := encBd) (k := 4) (fun _ => rfl) l)
theorem scS_ (n : Nat) (l : List (List UInt8 × Term)) : ScopedL n (encL encBd l) = True := eq_true (scoped_encL (fun x => by simp [Scoped, ScopedL, scoped_encTs]) l)
theorem cellBd : ∀ (x : List UInt8 × Term) c, c ∈ (encBd x).cells → c.isCell = true := by
  intro x c hc; simp [AV.cells] at hc; rcases hc with rfl | rfl | rfl | rfl <;> rfl
attribute [push_cast] uniS scS_
section
variable {P : Program} {ro : Option Nat} {st : ASt} {dst : Option Tmp} {ty : TypeId} {pos : String} {after : Array Edge} {guard : Option (Nat × Bool)} {K : AV → List AObj → Prop}
theorem AOp_convert_str {t t' e : TypeId} {x : Operand} (s : List UInt8) (tk : Tok) (hx : st.opd x = .sl tk (encB s)) (hne : s ≠ []) (hd : SliceT P t e) (he : P.underlying e = some (.int .u8)) (ht : P.underlying t' = some .string)
    (k : K (.str s) st.heap) : AOp P ro ⟨dst, .convert t t' x, ty, pos, after, guard⟩ K st :=
  AOp_pure _ (fun c => by simp) (fun C a _ _ hsr => by
    have hv := hsr.opd x
    rw [hx] at hv
    obtain ⟨ad, c, e1, hc, _, news, hnl, hnrel, hncell⟩ := sl_values hv
    have hflat : flat (encB s) = encB s := flat_cells _ (fun v hv => by simp [encB] at hv; obtain ⟨b, _, rfl⟩ := hv; rfl)
    have hlen : (encB s).length = s.length := encB_length s
    obtain ⟨b, o, rfl, hcell⟩ := hncell (by rw [hflat]; intro h; have := congrArg List.length h; rw [hlen] at this; exact hne (List.eq_nil_of_length_eq_zero this))
    have hd' : P.underlying t = some (.slice e) := hd
    have hrun := run_convert_bytes_back (P := P) C.w t t' e ⟨b, o, none⟩ c s hd' he ht (fun j hj => by
      have hj1 : j < (flat (encB s)).length := by rw [hflat, hlen]; exact hj
      have hj2 : j < news.length := by omega
      have h1 := hnrel j hj1 hj2
      have h2 := hcell j news[j] (List.getElem?_eq_getElem hj2)
      rw [h2]
      have e3 : (flat (encB s))[j] = .int .u8 s[j].toNat := by simp only [hflat]; rw [encB_get]
      rw [e3] at h1
      rw [h1.int_inv])
    refine ⟨_, ?_, .str s⟩
    rw [← hlen] at hrun
    simp only [execOp, e1, Sem.run_bind, hrun, Result.andThen_ok]; rfl) k
end
theorem insAt_eq (l : List (List UInt8)) (s : List UInt8) (i : Nat) (hi : i ≤ l.length) (h1 : ∀ j (h : j < l.length), j < i → Lib.compareBytes l[j] s < 0) (h2 : ∀ h : i < l.length, ¬ Lib.compareBytes l[i] s < 0) : insAt l s = i := by
  induction l generalizing i with
  | nil => simp at hi; simp [insAt, hi]
  | cons x l ih =>
    cases i with
    | zero =>
      have := h2 (by simp)
      simp only [List.getElem_cons_zero] at this
      simp [insAt, this]
    | succ i =>
      have h3 := h1 0 (by simp) (by omega)
      simp only [List.getElem_cons_zero] at h3
      have := ih i (by simpa using hi) (fun j h hj => by have := h1 (j + 1) (by simp; omega) (by omega); simpa only [List.getElem_cons_succ] using this) (fun h => by have := h2 (by simp; omega); simpa only [List.getElem_cons_succ] using this)
      unfold insAt at this ⊢
      simp [h3, this]
end Ab
set_option maxRecDepth 10000
namespace Ab
open Go Go.Proofs
def sortS (l : List (List UInt8)) : List (List UInt8) := l.mergeSort fun x y => decide (x ≤ y)
theorem flat_encN (l : List (List UInt8)) : flat (encN l) = encN l := flat_cells _ (fun v hv => by simp [encN, encL] at hv; obtain ⟨b, _, rfl⟩ := hv; rfl)
theorem sortS_len (l : List (List UInt8)) : (sortS l).length = l.length := List.length_mergeSort l
theorem sortS_pw (l : List (List UInt8)) : (sortS l).Pairwise (fun a b => decide (a ≤ b) = true) :=
  List.pairwise_mergeSort (fun a b c h1 h2 => by simp only [decide_eq_true_eq] at *; exact List.le_trans h1 h2) (fun a b => by rcases List.le_total a b with h | h <;> simp [h]) l
theorem sortS_eq {l l' : List (List UInt8)} (hp : l'.Perm l) (hs : l'.Pairwise (fun a b => decide (a ≤ b) = true)) : sortS l = l' :=
  List.Perm.eq_of_pairwise (fun a b _ _ h1 h2 => by simp only [decide_eq_true_eq] at *; exact List.le_antisymm h1 h2) (sortS_pw l) hs ((List.mergeSort_perm l _).trans hp.symm)
theorem sortS_perm {l l' : List (List UInt8)} (hp : l.Perm l') : sortS l = sortS l' := sortS_eq ((List.mergeSort_perm l' _).trans hp.symm) (sortS_pw l')
theorem putRow_heap {α : Type} [Inhabited α] (enc : α → Value) (w : World) (b off : Nat) (d : Array α) (cur : Array Value) (e : TypeId) (fr : Nat × Nat) (hb : w.heap[b]? = some (.cells cur e fr)) :
    (Go.Sort.putRow enc w b off d).heap = w.heap.setIfInBounds b (.cells (Go.Sort.putCells enc off d cur) e fr) := by
  have hlt := (Array.getElem?_eq_some_iff.1 hb).1
  unfold Go.Sort.putRow Go.Sort.mapBlock
  apply Array.ext_getElem?
  intro k
  simp only [Array.getElem?_modify, Array.getElem?_setIfInBounds]
  by_cases hk : b = k
  · subst hk
    rw [if_pos rfl, if_pos rfl, if_pos hlt, hb]; rfl
  · rw [if_neg hk, if_neg hk]
theorem putCells_get {α : Type} [Inhabited α] (enc : α → Value) (d : Array α) (cur : Array Value) (j : Nat) (hj : j < d.size) (hj' : j < (Go.Sort.putCells enc 0 d cur).size) : (Go.Sort.putCells enc 0 d cur)[j] = enc d[j] := by
  unfold Go.Sort.putCells
  simp [hj]
theorem sort_ac (k : Nat) (ss : List (List UInt8)) (hlen : ss.length < 1099511627776) (H : List AObj) (hk : H[k]? = some (grO 9 1 (encN ss))) :
    ACall Tryz.prog 169 [grS k (encN ss)] H (fun r H' => r = .tup [] ∧ H' = H.set k (grO 9 1 (encN (sortS ss)))) := by
  intro C vs hg hH hsz hv
  match vs, hsz, hv with
  | ⟨[v]⟩, _, hv =>
    have h0 := hv 0 (by simp) (by simp)
    simp only [List.getElem_cons_zero] at h0
    have htup : ∀ C' : Ctx, VRel C' (.tup []) (.tuple #[]) := fun C' => .tup [] #[] rfl (fun i h => absurd h (by simp))
    cases ss with
    | nil =>
      have h0' : VRel C (.sl .zero []) v := h0
      have hset : H.set k (grO 9 1 (encN (sortS []))) = H := by
        have e : sortS [] = [] := by simp [sortS]
        rw [e]
        apply List.ext_getElem?
        intro i
        rw [List.getElem?_set]
        split
        · rename_i h; subst h
          have hl := (List.getElem?_eq_some_iff.1 hk).1
          simp only [hl, if_true]; exact hk.symm
        · rfl
      cases h0' with
      | sl _ _ a n c f hn hc hrow hrel htok =>
        subst hn
        refine (show Calls Tryz.prog 169 #[.slice a 0 c] C.w (fun e w' => e = .returned (.tuple #[]) ∧ w' = C.w) from Any.slices_Sort_string_none Tryz.lays190 a c C.w).mono fun e w' ⟨he, hw⟩ => ?_
        subst hw
        exact ⟨_, .tup [], C, he, rfl, hg, Ext.refl C, htup C, rfl, by rw [hset]; exact hH⟩
    | cons s ss' =>
      have h0' : VRel C (.gr k (encN (s :: ss')).length) v := h0
      have hkC : C.H[k]? = some (.grow 9 1 (encN (s :: ss'))) := by rw [hH, hk]; show some (AObj.grow _ _ (flat (encN (s :: ss')))) = _; rw [flat_encN]
      generalize hss : s :: ss' = ss at *
      have hne : ss ≠ [] := by rw [← hss]; simp
      cases h0' with
      | gr _ _ ad c hgr =>
        obtain ⟨e', sz', vs', hk2, _, _, hr⟩ := hgr
        rw [hkC] at hk2
        injection hk2 with hk2; injection hk2 with q1 q2 q3
        subst q1 q2 q3
        obtain ⟨cur, rfl, hb, hcm, hc1, hcs⟩ := hr (by omega)
        obtain ⟨cur2, hb2, hfit, hS, hrel⟩ := hg.obj k _ hkC
        rw [hb] at hb2
        injection hb2 with hb2; injection hb2 with hb2 _ _
        subst hb2
        rw [encL_length] at hfit hc1 ⊢
        have hcell : ∀ j (hj : j < ss.length), cur[j]? = some (.string ⟨ss[j].toArray⟩) := fun j hj => by
          have hj1 : j < (encN ss).length := by rw [encL_length]; exact hj
          have hj2 : j < cur.size := by omega
          have h1 := (hrel j hj1 hj2).1
          have e1 : (encN ss)[j] = .str ss[j] := by simp [encN, encL]
          rw [e1] at h1
          rw [Array.getElem?_eq_getElem hj2, h1.str_inv]
        have hlt := hg.lt k _ hkC (by simp [AObj.kind])
        have hHolds : Go.Sort.Holds encStr C.w (C.μ k) 0 ss.toArray := fun j hj => by
          have hj' : j < ss.length := by simpa using hj
          refine ⟨?_, by simp [World.frozen?, hb]⟩
          have := hcell j hj'
          simp [World.cell?, hb, this, hj']
        refine (Tryz.slices_Sort_string (C.μ k) 0 c ss C.w hHolds hlt (by omega)).mono fun e w' ⟨he, q, os, hw⟩ => ?_
        subst hw
        have hls := sortS_len ss
        have hputs : (Go.Sort.putCells encStr 0 (sortS ss).toArray cur).size = cur.size := by simp [Go.Sort.putCells]
        have hheap := putRow_heap encStr (Go.Sort.ahead C.w q) (C.μ k) 0 (sortS ss).toArray cur 9 (0, 0) hb
        obtain ⟨hg1, hx1⟩ := step_gr_in hg k (vs' := encN (sortS ss)) hkC hb (w' := Go.Sort.putRow encStr (Go.Sort.ahead C.w q) (C.μ k) 0 (sortS ss).toArray) hheap ⟨rfl, rfl, rfl, by first | exact Nat.le_refl _ | exact Nat.le_add_right _ _⟩ hputs (by rw [encL_length, encL_length]; omega) rfl (fun hxx => by
          refine ⟨Go.Sort.putCells encStr 0 (sortS ss).toArray cur, by rw [hheap]; simp [hlt, Go.Sort.ahead], by rw [encL_length, hputs]; omega, hS, fun j hj hj' => ?_⟩
          rw [encL_length] at hj
          have e1 : (encN (sortS ss))[j]'(by rw [encL_length]; exact hj) = .str (sortS ss)[j] := by simp [encN, encL]
          have e2 := putCells_get encStr (sortS ss).toArray cur j (by simpa using hj) hj'
          rw [e1, e2]
          exact ⟨by simpa using VRel.str _, rfl⟩)
        obtain ⟨hg2, hx2⟩ := step_more hg1 (Go.Sort.grow (Go.Sort.putRow encStr (Go.Sort.ahead C.w q) (C.μ k) 0 (sortS ss).toArray) os) os rfl ⟨rfl, rfl, rfl, by first | exact Nat.le_refl _ | exact Nat.le_add_right _ _⟩
        refine ⟨_, .tup [], _, he, rfl, hg2, hx1.trans hx2, htup _, rfl, ?_⟩
        have hgo : grO 9 1 (encN (sortS ss)) = .grow 9 1 (encN (sortS ss)) := by
          cases hq : sortS ss with
          | nil => rw [hq] at hls; exact absurd (List.eq_nil_of_length_eq_zero hls.symm) hne
          | cons a r => show AObj.grow _ _ (flat (encN (a :: r))) = _; rw [flat_encN]
        rw [hgo, ← hH]
end Ab
set_option maxRecDepth 10000
namespace Ab
open Go Go.Proofs
def addV (q : Nat × List (List UInt8)) (s : Term) : Nat × List (List UInt8) := if s.var then (q.1 + 1, if s.name ∈ q.2 then q.2 else q.2 ++ [s.name]) else q
def seenI (q : Nat × List (List UInt8)) (items : List (List Int × Term)) : Nat × List (List UInt8) := items.foldl (fun q x => addV q x.2) q
def seenT (q : Nat × List (List UInt8)) (ts : List Term) : Nat × List (List UInt8) := ts.foldl (fun q t => seenI q (walkT t [])) q
theorem seenI_nil (q : Nat × List (List UInt8)) : seenI q [] = q := (rfl)
theorem seenI_snoc (q : Nat × List (List UInt8)) (pre : List (List Int × Term)) (x : List Int × Term) : seenI q (pre ++ [x]) = addV (seenI q pre) x.2 := by simp [seenI]
theorem seenT_nil (q : Nat × List (List UInt8)) : seenT q [] = q := (rfl)
theorem seenT_take (q : Nat × List (List UInt8)) (ts : List Term) (i : Nat) (h : i < ts.length) : seenT q (ts.take (i + 1)) = seenI (seenT q (ts.take i)) (walkT ts[i] []) := by
  unfold seenT; rw [List.take_succ_eq_append_getElem h, List.foldl_append]; rfl
theorem addV_t (q : Nat × List (List UInt8)) (s : Term) (h : s.var = true) : addV q s = (q.1 + 1, if s.name ∈ q.2 then q.2 else q.2 ++ [s.name]) := if_pos h
theorem addV_f (q : Nat × List (List UInt8)) (s : Term) (h : ¬ s.var = true) : addV q s = q := if_neg h
def tm (ks : List (List UInt8)) : List (List UInt8 × Bool) := ks.map fun k => (k, true)
def tA (ks : List (List UInt8)) : List (AV × AV) := ks.map fun k => (AV.str k, AV.bool true)
theorem tA_eq (ks : List (List UInt8)) : amap AV.str AV.bool (tm ks) = tA ks := by simp [amap, tm, tA]
theorem tA_nil : tA [] = [] := (rfl)
theorem tA_len (ks : List (List UInt8)) : (tA ks).length = ks.length := by simp [tA]
theorem tm_set (v : List UInt8) : ∀ ks, aset (tm ks) v true = tm (if v ∈ ks then ks else ks ++ [v])
  | [] => by simp [tm, aset]
  | k :: ks => by
    have ih := tm_set v ks
    have e : tm (k :: ks) = (k, true) :: tm ks := rfl
    rw [e, aset]
    by_cases h : k = v
    · subst h; simp [tm]
    · have h' : ¬ v = k := fun e => h e.symm
      simp only [h, if_false, List.mem_cons, h', false_or]
      rw [ih]
      split <;> simp [tm]
def lA (o : Option (List UInt8)) : Option (AV × AV) := o.map fun k => (AV.str k, AV.bool true)
theorem osc_tA (n ver : Nat) (ks : List (List UInt8)) : OScoped n (.map ver (tA ks)) = True := by
  refine eq_true ?_
  intro e he
  simp only [tA, List.mem_map] at he
  obtain ⟨k, _, rfl⟩ := he
  exact ⟨trivial, trivial⟩
theorem osc_it (n m ver : Nat) (ks : List (List UInt8)) (o : Option (List UInt8)) (h : m < n) : OScoped n (.iter m ver (tA ks) (lA o)) = True := by
  refine eq_true ⟨h, ?_⟩
  rintro e (he | he)
  · simp only [tA, List.mem_map] at he
    obtain ⟨k, _, rfl⟩ := he
    exact ⟨trivial, trivial⟩
  · cases o with
    | none => cases he
    | some k => simp only [lA, Option.map_some, Option.some.injEq] at he; subst he; exact ⟨trivial, trivial⟩
theorem osc_m0 (n ver : Nat) : OScoped n (.map ver []) = True := eq_true (fun e he => by cases he)
theorem osc_itn (n m ver : Nat) (ks : List (List UInt8)) (h : m < n) : OScoped n (.iter m ver (tA ks) none) = True := osc_it n m ver ks none h
theorem lA_n : lA none = none := (rfl)
theorem lA_s (k : List UInt8) : lA (some k) = some (AV.str k, AV.bool true) := (rfl)
theorem osc_its (n m ver : Nat) (ks : List (List UInt8)) (k : List UInt8) (h : m < n) : OScoped n (.iter m ver (tA ks) (some (.str k, .bool true))) = True := osc_it n m ver ks (some k) h
theorem scflN (n : Nat) (l : List (List UInt8)) : ScopedL n (flat (encL AV.str l)) = True := by rw [show flat (encL AV.str l) = encN l from flat_encN l]; exact scN_ n l
attribute [push_cast] osc_tA osc_it osc_itn osc_its osc_m0 scflN
theorem erase_map {α β : Type} (f : α → β) : ∀ (l : List α) (j : Nat), (l.map f).eraseIdx j = (l.eraseIdx j).map f
  | [], _ => by simp
  | a :: l, 0 => by simp
  | a :: l, j + 1 => by simp [erase_map f l j]
theorem grS_len (k : Nat) {xs ys : List AV} (h : xs.length = ys.length) : grS k xs = grS k ys := by
  cases xs <;> cases ys <;> simp [grS] at h ⊢ <;> omega
theorem varsOf_ac (ts : List Term) (hlen : ts.length < 1099511627776) (hb : ∀ t, t ∈ ts → t.bulk ≤ 1099511627775) (hk : (seenT (0, []) ts).2.length < 1099511627775) (H : List AObj) :
    ACall Tryz.prog 131 [.sl .none (encTs ts)] H (fun r H' => r = .sl .none (encN (sortS (seenT (0, []) ts).2)) ∧ H' = H) := by
  refine ACall_VGA (H.length) 39 [.tmp 2] Tryz.func131 rfl rfl rfl ?_
  refine AW_seq (AW_of_W ?_)
  simp only [push_cast, Nat.reduceAdd, Nat.reduceSub, Nat.reduceMul, Nat.reduceLT, Nat.reduceLeDiff, Nat.reduceEqDiff, Int.reduceToNat, ↓reduceIte]
  refine AW_seq (AW_of_W ?_)
  simp only [push_cast, Nat.reduceAdd, Nat.reduceSub, Nat.reduceMul, Nat.reduceLT, Nat.reduceLeDiff, Nat.reduceEqDiff, Int.reduceToNat, ↓reduceIte]
  refine AW_reserve 1 ?_
  refine AW_of_W ?_
  simp only [push_cast, Nat.reduceAdd, Nat.reduceSub, Nat.reduceMul, Nat.reduceLT, Nat.reduceLeDiff, Nat.reduceEqDiff, Int.reduceToNat, ↓reduceIte]
  refine AW_loopW (maskG 40 [3, 7, 0, 0, 6]) (fun (i : Nat) => [(13, .int .i64 i)]) (fun i => H ++ [.map (seenT (0, []) (ts.take i)).1 (tA (seenT (0, []) (ts.take i)).2), .cells [.map H.length], .dead]) (fun i => i ≤ ts.length) (fun i => ts.length - i) 0 (Nat.zero_le _) (by simp only [push_cast, Nat.reduceAdd, Nat.reduceSub, Nat.reduceMul, Nat.reduceLT, Nat.reduceLeDiff, Nat.reduceEqDiff, Int.reduceToNat, ↓reduceIte, List.take_zero, seenT_nil, tA_nil]) (fun i hi => ?_)
  simp only [push_cast, Nat.reduceAdd, Nat.reduceSub, Nat.reduceMul, Nat.reduceLT, Nat.reduceLeDiff, Nat.reduceEqDiff, Int.reduceToNat, ↓reduceIte]
  refine cI (fun h => ?_) (fun h => ?_)
  · repeat refine ⟨by omega, ?_⟩
    have hil : i < ts.length := by omega
    refine (walkF_ac (ts[i]'hil) _).to ?_
    simp only [push_cast, Nat.reduceAdd, Nat.reduceSub, Nat.reduceMul, Nat.reduceLT, Nat.reduceLeDiff, Nat.reduceEqDiff, Int.reduceToNat, ↓reduceIte]
    obtain ⟨q0, hq0⟩ : ∃ q0, q0 = seenT (0, []) (ts.take i) := ⟨_, rfl⟩
    have hst := seenT_take (0, []) ts i hil
    rw [← hq0] at hst ⊢
    obtain ⟨t, ht⟩ : ∃ t, t = ts[i]'hil := ⟨_, rfl⟩
    have hbt : t.bulk ≤ 1099511627775 := by rw [ht]; exact hb _ (List.getElem_mem hil)
    rw [← ht] at hst ⊢
    refine AW_iterW _ _ (walk_iter t hbt _) H (fun pre => [.map (seenI q0 pre).1 (tA (seenI q0 pre).2), .cells [.map H.length], .dead, .cells [.str t.name, .bool t.var, .sl .none (encTs t.args)], .cells [.str t.name, .bool t.var, .sl .none (encTs t.args)]]) 5 (fun _ _ => none) rfl ok153 (by simp only [push_cast, Nat.reduceAdd, Nat.reduceSub, Nat.reduceMul, Nat.reduceLT, Nat.reduceLeDiff, Nat.reduceEqDiff, Int.reduceToNat, ↓reduceIte, seenI_nil]) (fun _ => rfl) (fun lp => by simp only [push_cast, Nat.reduceAdd, Nat.reduceSub, Nat.reduceMul, Nat.reduceLT, Nat.reduceLeDiff, Nat.reduceEqDiff, Int.reduceToNat, ↓reduceIte]) (fun p => by simp only [push_cast, Nat.reduceAdd, Nat.reduceSub, Nat.reduceMul, Nat.reduceLT, Nat.reduceLeDiff, Nat.reduceEqDiff, Int.reduceToNat, ↓reduceIte]) (fun _ => rfl) (fun pre x suf X l lp lp' he hn => ?_) (fun _ lp => ?_) (fun pre x suf c lp _ _ h => by cases h)
    · simp only [push_cast, Nat.reduceAdd, Nat.reduceSub, Nat.reduceMul, Nat.reduceLT, Nat.reduceLeDiff, Nat.reduceEqDiff, Int.reduceToNat, ↓reduceIte, List.drop_length]
      refine cI (fun hv => ?_) (fun hv => ?_)
      · refine AOp_mapUpdate (strKey un9) AV.bool (tm (seenI q0 pre).2) H.length (seenI q0 pre).1 x.2.name true rfl (by rw [tA_eq]; exact aget0 _ _ _) rfl rfl un192 ?_
        rw [tm_set, tA_eq]
        simp only [push_cast, Nat.reduceAdd, Nat.reduceSub, Nat.reduceMul, Nat.reduceLT, Nat.reduceLeDiff, Nat.reduceEqDiff, Int.reduceToNat, ↓reduceIte, seenI_snoc, addV_t _ _ hv]
      · simp only [push_cast, Nat.reduceAdd, Nat.reduceSub, Nat.reduceMul, Nat.reduceLT, Nat.reduceLeDiff, Nat.reduceEqDiff, Int.reduceToNat, ↓reduceIte, seenI_snoc, addV_f _ _ hv]
    · simp only [push_cast, Nat.reduceAdd, Nat.reduceSub, Nat.reduceMul, Nat.reduceLT, Nat.reduceLeDiff, Nat.reduceEqDiff, Int.reduceToNat, ↓reduceIte]
      repeat' first | refine ⟨by omega, ?_⟩ | refine cI (fun _ => ?_) (fun _ => ?_)
      refine loopW_n (i + 1) (by omega) (by omega) ?_
      rw [hst]
      simp only [push_cast, Nat.reduceAdd, Nat.reduceSub, Nat.reduceMul, Nat.reduceLT, Nat.reduceLeDiff, Nat.reduceEqDiff, Int.reduceToNat, ↓reduceIte]
  · obtain ⟨q, hq⟩ : ∃ q, q = seenT (0, []) ts := ⟨_, rfl⟩
    rw [List.take_of_length_le (show ts.length ≤ i by omega), ← hq]
    rw [← hq] at hk
    refine AOp_range_map H.length q.1 (tA q.2) rfl (by exact aget0 _ _ _) un192 ?_
    simp only [push_cast, Nat.reduceAdd, Nat.reduceSub, Nat.reduceMul, Nat.reduceLT, Nat.reduceLeDiff, Nat.reduceEqDiff, Int.reduceToNat, ↓reduceIte]
    refine AW_loopW (maskG 40 [8, 19]) (fun (p : List (List UInt8) × List (List UInt8) × Option (List UInt8)) => [(8, grS (H.length + 2) (encN p.1))]) (fun p => H ++ [.map q.1 (tA q.2), .cells [.map H.length], grO 9 1 (encN p.1), .iter H.length q.1 (tA p.2.1) (lA p.2.2)]) (fun p => (p.1 ++ p.2.1).Perm q.2) (fun p => p.2.1.length) ([], q.2, none) (List.Perm.refl _) (by simp only [push_cast, Nat.reduceAdd, Nat.reduceSub, Nat.reduceMul, Nat.reduceLT, Nat.reduceLeDiff, Nat.reduceEqDiff, Int.reduceToNat, ↓reduceIte, lA_n, encL_nil]) (fun p hp => ?_)
    obtain ⟨xs, left, last⟩ := p
    simp only at hp
    have hxl := hp.length_eq
    rw [List.length_append] at hxl
    simp only [push_cast, Nat.reduceAdd, Nat.reduceSub, Nat.reduceMul, Nat.reduceLT, Nat.reduceLeDiff, Nat.reduceEqDiff, Int.reduceToNat, ↓reduceIte]
    refine AOp_next_map (H.length + 3) H.length q.1 (tA q.2) (tA left) (lA last) rfl (by exact (agetN _ _ 3).trans rfl) (by exact aget0 _ _ _) (fun he => ?_) (fun j hj => ?_)
    · have hl0 : left = [] := by cases left with | nil => rfl | cons a l => simp [tA] at he
      subst hl0
      rw [List.append_nil] at hp
      simp only [push_cast, Nat.reduceAdd, Nat.reduceSub, Nat.reduceMul, Nat.reduceLT, Nat.reduceLeDiff, Nat.reduceEqDiff, Int.reduceToNat, ↓reduceIte]
      refine (sort_ac (H.length + 2) xs (by simp at hxl; omega) _ (by exact (agetN _ _ 2).trans rfl)).to ?_
      simp only [push_cast, Nat.reduceAdd, Nat.reduceSub, Nat.reduceMul, Nat.reduceLT, Nat.reduceLeDiff, Nat.reduceEqDiff, Int.reduceToNat, ↓reduceIte]
      have hls := sortS_len xs
      rw [← sortS_perm hp, grS_len (H.length + 2) (show (encN xs).length = (encN (sortS xs)).length by rw [encL_length, encL_length]; omega)]
      exact .row (H.length + 2) 9 1 (by exact (agetN _ _ 2).trans rfl) (by rw [flat_encN, Nat.mul_one]) (by omega) (by rw [flat_encN]; exact of_eq_true (scN_ _ _))
    · have hjl : j < left.length := by rw [tA_len] at hj; exact hj
      have e1 : (tA left)[j] = (.str left[j], .bool true) := by simp [tA]
      have e2 : (tA left).eraseIdx j = tA (left.eraseIdx j) := by simp only [tA, erase_map]
      rw [e1, e2]
      simp only [push_cast, Nat.reduceAdd, Nat.reduceSub, Nat.reduceMul, Nat.reduceLT, Nat.reduceLeDiff, Nat.reduceEqDiff, Int.reduceToNat, ↓reduceIte]
      refine AOp_entry_map (H.length + 3) H.length q.1 (tA q.2) (tA (left.eraseIdx j)) (.str left[j], .bool true) rfl (by exact (agetN _ _ 3).trans rfl) (by exact aget0 _ _ _) ?_
      simp only [push_cast, Nat.reduceAdd, Nat.reduceSub, Nat.reduceMul, Nat.reduceLT, Nat.reduceLeDiff, Nat.reduceEqDiff, Int.reduceToNat, ↓reduceIte]
      refine AOp_append_Gr _ (H.length + 2) (encN xs) (encN [left[j]]) _ rfl rfl (by exact (agetN _ _ 2).trans rfl) sl163 sz9 by9 zr9 rfl (by decide) (of_eq_true (uniN _)) (of_eq_true (uniN _)) (by rw [flat_encN]; intro c hc; simp [encN, encL] at hc; subst hc; rfl) (by rw [encL_length, encL_length]; simp at hxl ⊢; omega) (by rw [encL_length, encL_length]; simp at hxl ⊢; omega) ?_
      rw [← encL_append]
      simp only [push_cast, Nat.reduceAdd, Nat.reduceSub, Nat.reduceMul, Nat.reduceLT, Nat.reduceLeDiff, Nat.reduceEqDiff, Int.reduceToNat, ↓reduceIte]
      refine loopW_n (xs ++ [left[j]], left.eraseIdx j, some left[j]) ?_ (by simp only [List.length_eraseIdx]; split <;> omega) (by simp only [push_cast, Nat.reduceAdd, Nat.reduceSub, Nat.reduceMul, Nat.reduceLT, Nat.reduceLeDiff, Nat.reduceEqDiff, Int.reduceToNat, ↓reduceIte, lA_s])
      refine List.Perm.trans ?_ hp
      rw [List.append_assoc]
      refine List.Perm.append_left xs ?_
      rw [List.eraseIdx_eq_take_drop_succ]
      refine (List.perm_middle (l₁ := left.take j) (l₂ := left.drop (j + 1)) (a := left[j])).symm.trans ?_
      rw [← List.drop_eq_getElem_cons hjl, List.take_append_drop]
end Ab
namespace Ab
open Go Go.Proofs
def oneP (v n : List UInt8) (u : Bool) : Int := if u = true ∧ n = v then 1 else 0
def countP (v : List UInt8) : Term → Int
  | .mk n u xs => oneP v n u + (xs.map (countP v)).sum
theorem countP_mk (v n : List UInt8) (u : Bool) (xs : List Term) : countP v (.mk n u xs) = oneP v n u + (xs.map (countP v)).sum := by simp [countP]
theorem count_bnd (v : List UInt8) (t : Term) : 0 ≤ countP v t ∧ countP v t ≤ t.size := by
  induction t using Term.ind with | _ n u xs ih
  rw [countP_mk, Term.size_mk]
  have : ∀ ys : List Term, (∀ y, y ∈ ys → y ∈ xs) → 0 ≤ (ys.map (countP v)).sum ∧ (ys.map (countP v)).sum ≤ ((ys.map Term.size).sum : Nat) := by
    intro ys
    induction ys with
    | nil => intro _; simp
    | cons y ys ih2 =>
      intro hy
      have h1 := ih y (hy y (by simp))
      have h2 := ih2 (fun z hz => hy z (by simp [hz]))
      simp only [List.map_cons, List.sum_cons]; omega
  have := this xs (fun y hy => hy)
  unfold oneP
  split <;> omega
theorem countP_bound (v : List UInt8) (t : Term) : 0 ≤ countP v t ∧ countP v t ≤ t.size := count_bnd v t
theorem counts_bound (v : List UInt8) : ∀ xs : List Term, 0 ≤ (xs.map (countP v)).sum ∧ (xs.map (countP v)).sum ≤ ((xs.map Term.size).sum : Nat)
  | [] => by simp
  | x :: l => by
    have h1 := counts_bound v l
    have h2 := countP_bound v x
    simp only [List.map_cons, List.sum_cons]; omega
def collectP : Term → List (List UInt8) → List (List UInt8)
  | .mk n u xs, l => (xs.map collectP).foldl (fun l f => f l) (if u then insertP l n else l)
theorem collectP_mk (n : List UInt8) (u : Bool) (xs : List Term) (l : List (List UInt8)) : collectP (.mk n u xs) l = xs.foldl (fun l t => collectP t l) (if u then insertP l n else l) := by simp [collectP, List.foldl_map]
def varsP (ts : List Term) : List (List UInt8) := ts.foldl (fun l t => collectP t l) []
theorem mem_collectP (v : List UInt8) (t : Term) : ∀ l, v ∈ collectP t l ↔ v ∈ l ∨ 0 < countP v t := by
  refine Term.ind (p := fun t => ∀ l, v ∈ collectP t l ↔ v ∈ l ∨ 0 < countP v t) (fun n u xs ih => ?_) t
  intro l
  rw [collectP_mk, countP_mk]
  have : ∀ (ys : List Term) (m : List (List UInt8)), (∀ y, y ∈ ys → y ∈ xs) → (v ∈ ys.foldl (fun l t => collectP t l) m ↔ v ∈ m ∨ 0 < (ys.map (countP v)).sum) := by
    intro ys
    induction ys with
    | nil => intro m _; simp
    | cons y ys ih2 =>
      intro m hm
      have h1 := countP_bound v y
      have h2 := counts_bound v ys
      simp only [List.foldl_cons, List.map_cons, List.sum_cons]
      rw [ih2 (collectP y m) (fun z hz => hm z (by simp [hz])), ih y (hm y (by simp)) m]
      constructor
      · rintro ((h | h) | h)
        · exact .inl h
        · right; omega
        · right; omega
      · rintro (h | h)
        · exact .inl (.inl h)
        · by_cases h3 : 0 < countP v y
          · exact .inl (.inr h3)
          · right; omega
  rw [this xs _ (fun y hy => hy)]
  have hb := counts_bound v xs
  cases u with
  | false => simp [oneP]
  | true =>
    simp only [if_true, mem_insertP, true_and, oneP]
    by_cases hn : n = v
    · simp [hn]; omega
    · have hn' : ¬ v = n := fun e => hn e.symm
      simp [hn, hn']
theorem collectP_length (t : Term) : ∀ l, (collectP t l).length ≤ l.length + t.size := by
  refine Term.ind (p := fun t => ∀ l, (collectP t l).length ≤ l.length + t.size) (fun n u xs ih => ?_) t
  intro l
  rw [collectP_mk, Term.size_mk]
  have h0 : (if u then insertP l n else l).length ≤ l.length + 1 := by split; exact insertP_length l n; omega
  generalize (if u then insertP l n else l) = m at h0
  have : ∀ (ys : List Term) (m : List (List UInt8)), (∀ y, y ∈ ys → y ∈ xs) → (ys.foldl (fun l t => collectP t l) m).length ≤ m.length + (ys.map Term.size).sum := by
    intro ys
    induction ys with
    | nil => intro m _; simp
    | cons y ys ih2 =>
      intro m hm
      have h1 := ih2 (collectP y m) (fun z hz => hm z (by simp [hz]))
      have h2 := ih y (hm y (by simp)) m
      simp only [List.foldl_cons, List.map_cons, List.sum_cons]; omega
  have := this xs m (fun y hy => hy)
  omega
def foldC (xs : List Term) (l : List (List UInt8)) : List (List UInt8) := xs.foldl (fun l t => collectP t l) l
theorem foldC_length : ∀ (xs : List Term) (l : List (List UInt8)), (foldC xs l).length ≤ l.length + (xs.map Term.size).sum
  | [], l => by simp [foldC]
  | y :: ys, l => by
    have h1 := foldC_length ys (collectP y l)
    have h2 := collectP_length y l
    have : foldC (y :: ys) l = foldC ys (collectP y l) := rfl
    rw [this]; simp only [List.map_cons, List.sum_cons]; omega
theorem collectP_fold (n : List UInt8) (u : Bool) (xs : List Term) (l : List (List UInt8)) : collectP (.mk n u xs) l = foldC xs (if u then insertP l n else l) := by rw [collectP_mk]; rfl
theorem cb_cons (a b : UInt8) (x y : List UInt8) : Lib.compareBytes (a :: x) (b :: y) = if a < b then -1 else if b < a then 1 else Lib.compareBytes x y := by rw [Lib.compareBytes]
theorem cb_trans : ∀ (x y z : List UInt8), Lib.compareBytes x y < 0 → Lib.compareBytes y z < 0 → Lib.compareBytes x z < 0
  | [], [], _, h, _ => by simp [Lib.compareBytes] at h
  | [], _ :: _, [], _, h => by simp [Lib.compareBytes] at h
  | [], _ :: _, _ :: _, _, _ => by simp [Lib.compareBytes]
  | _ :: _, [], _, h, _ => by simp [Lib.compareBytes] at h
  | _ :: _, _ :: _, [], _, h => by simp [Lib.compareBytes] at h
  | a :: x, b :: y, c :: z, h1, h2 => by
    rw [cb_cons] at h1 h2 ⊢
    simp only [UInt8.lt_iff_toNat_lt] at h1 h2 ⊢
    split at h1
    · split at h2
      · rw [if_pos (by omega)]; decide
      · split at h2
        · exact absurd h2 (by decide)
        · rw [if_pos (by omega)]; decide
    · split at h1
      · exact absurd h1 (by decide)
      · split at h2
        · rw [if_pos (by omega)]; decide
        · split at h2
          · exact absurd h2 (by decide)
          · rw [if_neg (by omega), if_neg (by omega)]; exact cb_trans x y z h1 h2
theorem cb_tot : ∀ (x y : List UInt8), ¬ Lib.compareBytes x y < 0 → x ≠ y → Lib.compareBytes y x < 0
  | [], [], _, h => absurd rfl h
  | [], _ :: _, h, _ => by simp [Lib.compareBytes] at h
  | _ :: _, [], _, _ => by simp [Lib.compareBytes]
  | a :: x, b :: y, h, hne => by
    rw [cb_cons] at h ⊢
    split at h
    · exact absurd (by decide) h
    · rename_i h1
      split at h
      · rename_i h2; rw [if_pos h2]; decide
      · rename_i h2
        rw [if_neg h2, if_neg h1]
        have hab : a = b := by rw [UInt8.lt_iff_toNat_lt] at h1 h2; exact UInt8.toNat_inj.1 (by omega)
        exact cb_tot x y h (fun e => hne (by rw [hab, e]))
theorem cb_le : ∀ (x y : List UInt8), Lib.compareBytes x y < 0 → x ≤ y
  | [], _, _ => List.nil_le _
  | _ :: _, [], h => by simp [Lib.compareBytes] at h
  | a :: x, b :: y, h => by
    rw [cb_cons] at h
    rw [List.cons_le_cons_iff]
    split at h
    · rename_i h1; exact .inl h1
    · rename_i h1
      split at h
      · exact absurd h (by decide)
      · rename_i h2
        have hab : a = b := by rw [UInt8.lt_iff_toNat_lt] at h1 h2; exact UInt8.toNat_inj.1 (by omega)
        exact .inr ⟨hab, cb_le x y h⟩
def SortedN (l : List (List UInt8)) : Prop := l.Pairwise fun a b => Lib.compareBytes a b < 0
theorem takeW_all {α : Type} (p : α → Bool) : ∀ (l : List α) x, x ∈ l.take (l.takeWhile p).length → p x = true
  | [], x, h => by simp at h
  | a :: l, x, h => by
    rw [List.takeWhile_cons] at h
    split at h
    · rename_i ha
      simp only [List.length_cons, List.take_succ_cons, List.mem_cons] at h
      rcases h with rfl | h
      · exact ha
      · exact takeW_all p l x h
    · simp at h
theorem takeW_next {α : Type} (p : α → Bool) : ∀ (l : List α) a r, l.drop (l.takeWhile p).length = a :: r → p a = false
  | [], a, r, h => by simp at h
  | b :: l, a, r, h => by
    rw [List.takeWhile_cons] at h
    split at h
    · simp only [List.length_cons, List.drop_succ_cons] at h; exact takeW_next p l a r h
    · rename_i hb
      simp only [List.length_nil, List.drop_zero, List.cons.injEq] at h
      rw [← h.1]; simpa using hb
theorem insertP_sorted (l : List (List UInt8)) (s : List UInt8) (h : SortedN l) : SortedN (insertP l s) := by
  unfold insertP
  split
  · exact h
  · rename_i hne
    have hl : l.take (insAt l s) ++ l.drop (insAt l s) = l := List.take_append_drop _ _
    have h' : SortedN (l.take (insAt l s) ++ l.drop (insAt l s)) := by rw [hl]; exact h
    unfold SortedN at h' ⊢
    rw [List.pairwise_append] at h'
    obtain ⟨g1, g2, g3⟩ := h'
    have hlt : ∀ x, x ∈ l.take (insAt l s) → Lib.compareBytes x s < 0 := fun x hx => by
      have := takeW_all (fun x => decide (Lib.compareBytes x s < 0)) l x hx
      simpa using this
    have hgt : ∀ x, x ∈ l.drop (insAt l s) → Lib.compareBytes s x < 0 := by
      cases hd : l.drop (insAt l s) with
      | nil => intro x hx; cases hx
      | cons a r =>
        have h1 := takeW_next (fun x => decide (Lib.compareBytes x s < 0)) l a r hd
        have h1 : ¬ Lib.compareBytes a s < 0 := by simpa using h1
        have h0 : l[insAt l s]? = some a := by
          have := congrArg (fun z => z[0]?) hd
          simpa using this
        have ha : Lib.compareBytes s a < 0 := cb_tot a s h1 (fun e => hne (by rw [h0, e]))
        rw [hd] at g2
        intro x hx
        rcases List.mem_cons.1 hx with rfl | hx
        · exact ha
        · exact cb_trans _ _ _ ha ((List.pairwise_cons.1 g2).1 x hx)
    rw [List.append_assoc, List.pairwise_append]
    refine ⟨g1, ?_, ?_⟩
    · rw [List.singleton_append, List.pairwise_cons]
      exact ⟨hgt, g2⟩
    · intro a ha b hb
      rcases List.mem_append.1 hb with hb | hb
      · rw [List.mem_singleton] at hb; subst hb; exact hlt a ha
      · exact g3 a ha b hb
theorem collectP_sorted (t : Term) : ∀ l, SortedN l → SortedN (collectP t l) := by
  induction t using Term.ind with | _ n u xs ih
  intro l h
  rw [collectP_fold]
  have h0 : SortedN (if u then insertP l n else l) := by split; exact insertP_sorted _ _ h; exact h
  have : ∀ (ys : List Term), (∀ y, y ∈ ys → y ∈ xs) → ∀ l, SortedN l → SortedN (foldC ys l) := by
    intro ys
    induction ys with
    | nil => intro _ l h; exact h
    | cons y ys ih2 => intro hy l h; exact ih2 (fun z hz => hy z (by simp [hz])) _ (ih y (hy y (by simp)) l h)
  exact this xs (fun y hy => hy) _ h0
theorem varsP_sorted (ts : List Term) : SortedN (varsP ts) := by
  have : ∀ (ts : List Term) l, SortedN l → SortedN (foldC ts l) := by
    intro ts
    induction ts with
    | nil => intro l h; exact h
    | cons t ts ih => intro l h; exact ih _ (collectP_sorted t l h)
  exact this ts [] List.Pairwise.nil
theorem sortedN_nodup {l : List (List UInt8)} (h : SortedN l) : l.Nodup := List.Pairwise.imp (fun {a b} hab e => by
  subst e
  have := (compareBytes_eq a a).2 rfl
  omega) h
theorem mem_foldC (v : List UInt8) : ∀ (ts : List Term) l, v ∈ foldC ts l ↔ v ∈ l ∨ ∃ t, t ∈ ts ∧ 0 < countP v t
  | [], l => by simp [foldC]
  | t :: ts, l => by
    have h := mem_foldC v ts (collectP t l)
    have e : foldC (t :: ts) l = foldC ts (collectP t l) := rfl
    rw [e, h, mem_collectP]
    simp only [List.mem_cons, exists_eq_or_imp, or_assoc]
theorem walk_count (v : List UInt8) : ∀ (xs : List Term) (i : Int) (p : List Int), (∃ x, x ∈ walkL xs i p ∧ x.2.var = true ∧ x.2.name = v) ↔ ∃ t, t ∈ xs ∧ 0 < countP v t
  | [], i, p => by simp [walkL]
  | .mk n u ys :: r, i, p => by
    have h1 := walk_count v ys 0 (p ++ [i])
    have h2 := walk_count v r (i + 1) p
    have h3 : 0 < countP v (.mk n u ys) ↔ (u = true ∧ n = v) ∨ ∃ t, t ∈ ys ∧ 0 < countP v t := by
      rw [countP_mk]
      have hb := counts_bound v ys
      have hs : 0 < (ys.map (countP v)).sum ↔ ∃ t, t ∈ ys ∧ 0 < countP v t := by
        have : ∀ zs : List Term, 0 < (zs.map (countP v)).sum ↔ ∃ t, t ∈ zs ∧ 0 < countP v t := by
          intro zs
          induction zs with
          | nil => simp
          | cons z zs ih =>
            have b1 := countP_bound v z
            have b2 := counts_bound v zs
            simp only [List.map_cons, List.sum_cons, List.mem_cons, exists_eq_or_imp]
            rw [← ih]; omega
        exact this ys
      rw [← hs]
      unfold oneP
      split
      · rename_i h; constructor
        · intro _; exact .inl h
        · intro _; omega
      · rename_i h; constructor
        · intro hh; right; omega
        · rintro (hh | hh)
          · exact absurd hh h
          · omega
    simp only [walkL, List.mem_cons, List.mem_append, exists_eq_or_imp]
    rw [h3, ← h1, ← h2]
    constructor
    · rintro (h | ⟨x, h | h, hx⟩)
      · exact .inl (.inl h)
      · exact .inl (.inr ⟨x, h, hx⟩)
      · exact .inr ⟨x, h, hx⟩
    · rintro ((h | ⟨x, h, hx⟩) | ⟨x, h, hx⟩)
      · exact .inl h
      · exact .inr ⟨x, .inl h, hx⟩
      · exact .inr ⟨x, .inr h, hx⟩
theorem walkT_count (v : List UInt8) (t : Term) (p : List Int) : (∃ x, x ∈ walkT t p ∧ x.2.var = true ∧ x.2.name = v) ↔ 0 < countP v t := by
  have h := walk_count v [t] 0 p
  rw [walkL_cons] at h
  simp only [walkL, List.append_nil, List.mem_singleton, exists_eq_left] at h
  rw [← h]
  have : ∀ (t : Term) (p q : List Int), (∃ x, x ∈ walkT t p ∧ x.2.var = true ∧ x.2.name = v) → ∃ x, x ∈ walkT t q ∧ x.2.var = true ∧ x.2.name = v := by
    rintro t p q ⟨x, hx, h1⟩
    simp only [walkT, List.mem_cons] at hx
    rcases hx with rfl | hx
    · exact ⟨(q, t), by simp [walkT], h1⟩
    · obtain ⟨y, hy, h2⟩ := (walk_count v t.args 0 q).2 ((walk_count v t.args 0 p).1 ⟨x, hx, h1⟩)
      exact ⟨y, by simp only [walkT, List.mem_cons]; exact .inr hy, h2⟩
  exact ⟨this t _ _, this t _ _⟩
theorem mem_seenI (v : List UInt8) : ∀ (items : List (List Int × Term)) (q : Nat × List (List UInt8)), v ∈ (seenI q items).2 ↔ v ∈ q.2 ∨ ∃ x, x ∈ items ∧ x.2.var = true ∧ x.2.name = v
  | [], q => by simp [seenI]
  | x :: items, q => by
    have h := mem_seenI v items (addV q x.2)
    have e : seenI q (x :: items) = seenI (addV q x.2) items := rfl
    rw [e, h]
    have h1 : v ∈ (addV q x.2).2 ↔ v ∈ q.2 ∨ x.2.var = true ∧ x.2.name = v := by
      unfold addV
      by_cases hv : x.2.var = true
      · rw [if_pos hv]
        simp only [hv, true_and]
        split
        · rename_i hm; constructor
          · exact .inl
          · rintro (h | h); exact h; exact h ▸ hm
        · simp only [List.mem_append, List.mem_singleton]
          constructor
          · rintro (h | h); exact .inl h; exact .inr h.symm
          · rintro (h | h); exact .inl h; exact .inr h.symm
      · rw [if_neg hv]; simp [hv]
    rw [h1]
    simp only [List.mem_cons, exists_eq_or_imp, or_assoc]
theorem mem_seenT (v : List UInt8) : ∀ (ts : List Term) (q : Nat × List (List UInt8)), v ∈ (seenT q ts).2 ↔ v ∈ q.2 ∨ ∃ t, t ∈ ts ∧ 0 < countP v t
  | [], q => by simp [seenT]
  | t :: ts, q => by
    have h := mem_seenT v ts (seenI q (walkT t []))
    have e : seenT q (t :: ts) = seenT (seenI q (walkT t [])) ts := rfl
    rw [e, h, mem_seenI, walkT_count]
    simp only [List.mem_cons, exists_eq_or_imp, or_assoc]
theorem seen_nodup : ∀ (items : List (List Int × Term)) (q : Nat × List (List UInt8)), q.2.Nodup → (seenI q items).2.Nodup
  | [], q, h => h
  | x :: items, q, h => by
    have e : seenI q (x :: items) = seenI (addV q x.2) items := rfl
    rw [e]
    refine seen_nodup items _ ?_
    unfold addV
    split
    · simp only
      split
      · exact h
      · rename_i hm
        rw [List.nodup_append]
        refine ⟨h, by simp, ?_⟩
        intro a ha b hb e
        rw [List.mem_singleton] at hb
        exact hm (hb ▸ e ▸ ha)
    · exact h
theorem seenT_nodup : ∀ (ts : List Term) (q : Nat × List (List UInt8)), q.2.Nodup → (seenT q ts).2.Nodup
  | [], q, h => h
  | t :: ts, q, h => seenT_nodup ts _ (seen_nodup _ q h)
theorem varsOf_eq (ts : List Term) : sortS (seenT (0, []) ts).2 = varsP ts := by
  refine sortS_eq ?_ ?_
  · refine (List.perm_ext_iff_of_nodup (sortedN_nodup (varsP_sorted ts)) (seenT_nodup ts _ List.nodup_nil)).2 (fun v => ?_)
    rw [mem_seenT]
    exact mem_foldC v ts []
  · exact List.Pairwise.imp (fun {a b} h => by simpa using cb_le a b h) (varsP_sorted ts)
theorem seen_len : ∀ (items : List (List Int × Term)) (q : Nat × List (List UInt8)), (seenI q items).2.length ≤ q.2.length + items.length
  | [], q => by simp [seenI]
  | x :: items, q => by
    have h := seen_len items (addV q x.2)
    have e : seenI q (x :: items) = seenI (addV q x.2) items := rfl
    rw [e]
    have : (addV q x.2).2.length ≤ q.2.length + 1 := by unfold addV; split <;> (try simp only) <;> (try split) <;> simp
    simp only [List.length_cons]; omega
theorem seenT_len : ∀ (ts : List Term) (q : Nat × List (List UInt8)), (seenT q ts).2.length ≤ q.2.length + (ts.map Term.size).sum
  | [], q => by simp [seenT]
  | t :: ts, q => by
    have h := seenT_len ts (seenI q (walkT t []))
    have h2 := seen_len (walkT t []) q
    rw [walkT_length] at h2
    have e : seenT q (t :: ts) = seenT (seenI q (walkT t [])) ts := rfl
    rw [e]; simp only [List.map_cons, List.sum_cons]; omega
end Ab
set_option maxRecDepth 10000
namespace Ab
open Go Go.Proofs
def ndT (x : Term) : List (List UInt8 × Nat) := if x.var then [] else [(x.name, x.args.length)]
def nodesI (items : List (List Int × Term)) : List (List UInt8 × Nat) := items.flatMap fun x => ndT x.2
def nodesL : List Term → List (List UInt8 × Nat)
  | [] => []
  | .mk n u xs :: r => ndT (.mk n u xs) ++ (nodesL xs ++ nodesL r)
theorem nodesI_app (a b : List (List Int × Term)) : nodesI (a ++ b) = nodesI a ++ nodesI b := by simp [nodesI]
theorem nodesI_nil : nodesI [] = [] := (rfl)
theorem nodesI_snoc (a : List (List Int × Term)) (x : List Int × Term) : nodesI (a ++ [x]) = nodesI a ++ ndT x.2 := by simp [nodesI]
theorem nodes_walkL : ∀ (xs : List Term) (i : Int) (p : List Int), nodesI (walkL xs i p) = nodesL xs
  | [], _, _ => by simp [walkL, nodesL, nodesI]
  | .mk n u xs :: r, i, p => by
    have h1 := nodes_walkL xs 0 (p ++ [i])
    have h2 := nodes_walkL r (i + 1) p
    rw [walkL, nodesL, ← h1, ← h2, ← nodesI_app]
    simp [nodesI]
theorem nodes_walkT (t : Term) (p : List Int) : nodesI (walkT t p) = nodesL [t] := by
  cases t with
  | mk n u xs =>
    have := nodes_walkL xs 0 p
    unfold walkT
    rw [nodesL, nodesL, List.append_nil, ← this]
    rfl
theorem nodesL_app : ∀ (a b : List Term), nodesL (a ++ b) = nodesL a ++ nodesL b
  | [], b => by simp [nodesL]
  | .mk n u xs :: r, b => by
    have := nodesL_app r b
    rw [List.cons_append, nodesL, nodesL, this]; simp
def arC (q : Nat × List (List UInt8 × Nat)) (s : List UInt8 × Nat) : Bool := match aget q.2 s.1 with
  | some j => !decide (j = s.2)
  | none => false
def arStep (q : Nat × List (List UInt8 × Nat)) (s : List UInt8 × Nat) : Nat × List (List UInt8 × Nat) := if arC q s then q else (q.1 + 1, aset q.2 s.1 s.2)
def arF (q : Nat × List (List UInt8 × Nat)) (L : List (List UInt8 × Nat)) : Nat × List (List UInt8 × Nat) := L.foldl arStep q
def arBad : Nat × List (List UInt8 × Nat) → List (List UInt8 × Nat) → Bool
  | _, [] => false
  | q, s :: r => arC q s || arBad (arStep q s) r
theorem arF_app (q : Nat × List (List UInt8 × Nat)) (a b : List (List UInt8 × Nat)) : arF q (a ++ b) = arF (arF q a) b := by simp [arF]
theorem arF_nil (q : Nat × List (List UInt8 × Nat)) : arF q [] = q := (rfl)
theorem arBad_app : ∀ (a b : List (List UInt8 × Nat)) (q : Nat × List (List UInt8 × Nat)), arBad q (a ++ b) = (arBad q a || arBad (arF q a) b)
  | [], b, q => by simp [arBad, arF]
  | s :: a, b, q => by
    have := arBad_app a b (arStep q s)
    rw [List.cons_append, arBad, arBad, this, Bool.or_assoc]; rfl
def Cons (L : List (List UInt8 × Nat)) : Prop := ∀ a, a ∈ L → ∀ b, b ∈ L → a.1 = b.1 → a = b
theorem Cons.sub {L M : List (List UInt8 × Nat)} (h : Cons L) (hs : ∀ x, x ∈ M → x ∈ L) : Cons M := fun a ha b hb e => h a (hs a ha) b (hs b hb) e
end Ab
set_option maxRecDepth 10000
namespace Ab
open Go Go.Proofs
theorem vars1_ac (t : Term) (hb : t.bulk ≤ 1099511627770) (H : List AObj) : ACall Tryz.prog 131 [.sl .none [encT t]] H (fun r H' => r = .sl .none (encN (varsP [t])) ∧ H' = H) := by
  have hs := t.size_le
  have hl := seenT_len [t] (0, [])
  have := varsOf_ac [t] (by simp) (by simp; omega) (by simp at hl ⊢; omega) H
  rw [varsOf_eq, encTs_cons, encTs_nil] at this
  exact this
end Ab
set_option maxRecDepth 10000
namespace Ab
open Go Go.Proofs
theorem eqFunc_ac (xs ys : List Term) (g : Nat) (caps : List AV) (p : Term → Term → Bool) (H : List AObj) (hlen : xs.length < 1099511627776) (hlen2 : ys.length < 1099511627776) (hg : callOk Tryz.prog g = true) (hsc : ScopedL H.length caps)
    (hf : ∀ i (h : i < xs.length) (h' : i < ys.length) X, ACall Tryz.prog g (encT xs[i] :: encT ys[i] :: caps) X (fun r H' => r = .bool (p xs[i] ys[i]) ∧ H' = X)) :
    ACall Tryz.prog 108 [.sl .none (encTs xs), .sl .none (encTs ys), .fn g caps] H (fun r H' => r = .bool (decide (xs.length = ys.length) && (xs.zip ys).all fun q => p q.1 q.2) ∧ H' = H) := by
  refine ACall_V (H.length) 29 [.tmp 6] Tryz.func108 rfl rfl rfl ?_
  simp only [push_cast, Nat.reduceAdd, Nat.reduceSub, Nat.reduceMul, Nat.reduceLT, Nat.reduceLeDiff, Nat.reduceEqDiff, Int.reduceToNat, ↓reduceIte]
  refine cI (fun hl => ?_) (fun hl => ?_)
  · have hl : xs.length = ys.length := by omega
    have hz : (xs.zip ys).length = xs.length := by simp [hl]
    refine AW_loopW (maskG 32 [1, 0, 12, 0, 0]) (fun (i : Nat) => [(17, .int .i64 i)]) (fun _ => H) (fun i => i ≤ xs.length ∧ ((xs.zip ys).take i).all (fun q => p q.1 q.2) = true) (fun i => xs.length - i) 0 ⟨Nat.zero_le _, by simp⟩ (by simp only [push_cast, Nat.reduceAdd, Nat.reduceSub, Nat.reduceMul, Nat.reduceLT, Nat.reduceLeDiff, Nat.reduceEqDiff, Int.reduceToNat, ↓reduceIte, hsc]) (fun i hi => ?_)
    simp only [push_cast, Nat.reduceAdd, Nat.reduceSub, Nat.reduceMul, Nat.reduceLT, Nat.reduceLeDiff, Nat.reduceEqDiff, Int.reduceToNat, ↓reduceIte, hg]
    refine cI (fun h => ?_) (fun h => ?_)
    · repeat refine ⟨by omega, ?_⟩
      have hix : i < xs.length := by omega
      have hiy : i < ys.length := by omega
      refine (hf i hix hiy _).to ?_
      simp only [push_cast, Nat.reduceAdd, Nat.reduceSub, Nat.reduceMul, Nat.reduceLT, Nat.reduceLeDiff, Nat.reduceEqDiff, Int.reduceToNat, ↓reduceIte]
      refine cI (fun hp => ?_) (fun hp => ?_)
      · repeat' first | refine ⟨by omega, ?_⟩ | refine cI (fun _ => ?_) (fun _ => ?_)
        refine loopW_n (i + 1) ⟨by omega, all_take_true hi.2 (by omega) (by simpa using hp)⟩ (by omega) (by simp only [push_cast, Nat.reduceAdd, Nat.reduceSub, Nat.reduceMul, Nat.reduceLT, Nat.reduceLeDiff, Nat.reduceEqDiff, Int.reduceToNat, ↓reduceIte, hsc])
      · have ha := all_get (xs := xs.zip ys) (p := fun q => p q.1 q.2) (i := i) (by omega) (by simpa using hp)
        simp [ha]
    · have hs : (xs.zip ys).take i = xs.zip ys := List.take_of_length_le (by omega)
      rw [hs] at hi
      simp [hi.2, hl]
  · have hl' : ¬ xs.length = ys.length := by omega
    simp [hl']
theorem zip_all_eq : ∀ (xs ys : List Term), (decide (xs.length = ys.length) && (xs.zip ys).all fun q => decide (q.1 = q.2)) = decide (xs = ys)
  | [], [] => by simp
  | [], _ :: _ => by simp
  | _ :: _, [] => by simp
  | x :: xs, y :: ys => by
    have := zip_all_eq xs ys
    rw [Bool.eq_iff_iff] at this ⊢
    simp at this ⊢
    constructor
    · rintro ⟨a, b, c⟩; exact ⟨b, this.1 ⟨a, c⟩⟩
    · rintro ⟨b, c⟩; have := this.2 c; exact ⟨this.1, b, this.2⟩
theorem equal_ac (a : Term) : ∀ b : Term, a.bulk ≤ 1099511627775 → b.bulk ≤ 1099511627775 → ∀ H, ACall Tryz.prog 54 [encT a, encT b] H (fun r H' => r = .bool (decide (a = b)) ∧ H' = H) := by
  induction a using Term.ind with | _ n v xs ih
  rintro ⟨m, u, ys⟩ hb hb2 H
  have hlen := Term.len_le (n := n) (v := v) (xs := xs)
  have hlen2 := Term.len_le (n := m) (v := u) (xs := ys)
  refine ACall_V (H.length) 22 [.tmp 4] Tryz.func54 rfl rfl rfl ?_
  simp only [push_cast, Nat.reduceAdd, Nat.reduceSub, Nat.reduceMul, Nat.reduceLT, Nat.reduceLeDiff, Nat.reduceEqDiff, Int.reduceToNat, ↓reduceIte]
  refine cI (fun h1 => ?_) (fun h1 => ?_)
  · refine cI (fun h2 => ?_) (fun h2 => ?_)
    · have h2 : v = u := by simpa using h2
      refine (eqFunc_ac xs ys 54 [] (fun x y => decide (x = y)) _ (by omega) (by omega) ok54 (by simp [ScopedL]) (fun i h h' X => ih _ (List.getElem_mem h) _ (arg_bulk hb i h) (arg_bulk hb2 i h') X)).to ?_
      rw [zip_all_eq]
      simp only [push_cast, Nat.reduceAdd, Nat.reduceSub, Nat.reduceMul, Nat.reduceLT, Nat.reduceLeDiff, Nat.reduceEqDiff, Int.reduceToNat, ↓reduceIte]
      simp [h1, h2]
    · have h2 : ¬ v = u := by simpa using h2
      simp [h2]
  · simp [h1]
theorem compareString_ac (a b : List UInt8) (H : List AObj) : ACall Tryz.prog 166 [.str a, .str b] H (fun r H' => r = .int .i64 (Lib.compareBytes a b) ∧ H' = H) := by
  refine ACall_V (H.length) 6 [.tmp 4] Tryz.func166 rfl rfl rfl ?_
  simp only [push_cast, Nat.reduceAdd, Nat.reduceSub, Nat.reduceMul, Nat.reduceLT, Nat.reduceLeDiff, Nat.reduceEqDiff, Int.reduceToNat, ↓reduceIte]
  refine AOp_cmpstring a b xc184 rfl rfl ?_
  simp only [push_cast, Nat.reduceAdd, Nat.reduceSub, Nat.reduceMul, Nat.reduceLT, Nat.reduceLeDiff, Nat.reduceEqDiff, Int.reduceToNat, ↓reduceIte]
theorem compareStr_ac (a b : List UInt8) (H : List AObj) : ACall Tryz.prog 125 [.str a, .str b] H (fun r H' => r = .int .i64 (Lib.compareBytes a b) ∧ H' = H) := by
  refine ACall_V (H.length) 6 [.tmp 4] Tryz.func125 rfl rfl rfl ?_
  simp only [push_cast, Nat.reduceAdd, Nat.reduceSub, Nat.reduceMul, Nat.reduceLT, Nat.reduceLeDiff, Nat.reduceEqDiff, Int.reduceToNat, ↓reduceIte]
  refine (compareString_ac a b _).to ?_
  simp only [push_cast, Nat.reduceAdd, Nat.reduceSub, Nat.reduceMul, Nat.reduceLT, Nat.reduceLeDiff, Nat.reduceEqDiff, Int.reduceToNat, ↓reduceIte]
theorem isNaN_ac (a : Int) (H : List AObj) : ACall Tryz.prog 167 [.int .i64 a] H (fun r H' => r = .bool false ∧ H' = H) := by
  refine ACall_V (H.length) 5 [.tmp 2] Tryz.func167 rfl rfl rfl ?_
  simp only [push_cast, Nat.reduceAdd, Nat.reduceSub, Nat.reduceMul, Nat.reduceLT, Nat.reduceLeDiff, Nat.reduceEqDiff, Int.reduceToNat, ↓reduceIte]
theorem cmpCompare_ac (a b : Int) (H : List AObj) : ACall Tryz.prog 126 [.int .i64 a, .int .i64 b] H (fun r H' => r = .int .i64 (cmpI a b) ∧ H' = H) := by
  unfold cmpI
  refine ACall_V (H.length) 18 [.tmp 4] Tryz.func126 rfl rfl rfl ?_
  simp only [push_cast, Nat.reduceAdd, Nat.reduceSub, Nat.reduceMul, Nat.reduceLT, Nat.reduceLeDiff, Nat.reduceEqDiff, Int.reduceToNat, ↓reduceIte]
  refine (isNaN_ac a _).to ?_
  simp only [push_cast, Nat.reduceAdd, Nat.reduceSub, Nat.reduceMul, Nat.reduceLT, Nat.reduceLeDiff, Nat.reduceEqDiff, Int.reduceToNat, ↓reduceIte]
  refine (isNaN_ac b _).to ?_
  simp only [push_cast, Nat.reduceAdd, Nat.reduceSub, Nat.reduceMul, Nat.reduceLT, Nat.reduceLeDiff, Nat.reduceEqDiff, Int.reduceToNat, ↓reduceIte]
  refine cI (fun h => ?_) (fun h => cI (fun h2 => ?_) (fun h2 => ?_))
  · simp [h]
  · simp [h, h2]
  · simp [h, h2]
theorem cmpOr_ac (a b : Int) (H : List AObj) : ACall Tryz.prog 124 [.sl .none [.int .i64 a, .int .i64 b]] H (fun r H' => r = .int .i64 (if a ≠ 0 then a else b) ∧ H' = H) := by
  have e : [AV.int .i64 a, .int .i64 b] = encP [a, b] := rfl
  rw [e]
  refine ACall_V (H.length) 17 [.tmp 2] Tryz.func124 rfl rfl rfl ?_
  simp only [push_cast, Nat.reduceAdd, Nat.reduceSub, Nat.reduceMul, Nat.reduceLT, Nat.reduceLeDiff, Nat.reduceEqDiff, Int.reduceToNat, ↓reduceIte]
  refine AW_loopW (maskG 18 [3, 2, 0, 0]) (fun (i : Nat) => [(8, .int .i64 i)]) (fun _ => H) (fun i => i ≤ 2 ∧ ∀ j (h : j < [a, b].length), j < i → [a, b][j] = 0) (fun i => 2 - i) 0 ⟨Nat.zero_le _, fun j h h2 => by omega⟩ (by simp only [push_cast, Nat.reduceAdd, Nat.reduceSub, Nat.reduceMul, Nat.reduceLT, Nat.reduceLeDiff, Nat.reduceEqDiff, Int.reduceToNat, ↓reduceIte]) (fun i hi => ?_)
  simp only [push_cast, Nat.reduceAdd, Nat.reduceSub, Nat.reduceMul, Nat.reduceLT, Nat.reduceLeDiff, Nat.reduceEqDiff, Int.reduceToNat, ↓reduceIte]
  refine cI (fun h => ?_) (fun h => ?_)
  · have hi2 : i < 2 := by omega
    refine ⟨hi2, cI (fun h0 => ?_) (fun h0 => ?_)⟩
    · repeat' first | refine ⟨by omega, ?_⟩ | refine cI (fun _ => ?_) (fun _ => ?_)
      refine loopW_n (i + 1) ⟨by omega, fun j h1 hj => ?_⟩ (by omega) (by simp only [push_cast, Nat.reduceAdd, Nat.reduceSub, Nat.reduceMul, Nat.reduceLT, Nat.reduceLeDiff, Nat.reduceEqDiff, Int.reduceToNat, ↓reduceIte])
      rcases Nat.lt_or_ge j i with hj | hj
      · exact hi.2 j h1 hj
      · have hji : j = i := by omega
        subst hji; exact h0
    · have h01 : i = 0 ∨ i = 1 := by omega
      rcases h01 with rfl | rfl
      · have h0 : ¬ a = 0 := h0
        show a = _
        rw [if_pos h0]
      · have ha : a = 0 := hi.2 0 (by simp) (by omega)
        show b = _
        rw [if_neg (by simp [ha])]
  · have ha : a = 0 := hi.2 0 (by simp) (by omega)
    have hb : b = 0 := hi.2 1 (by simp) (by omega)
    subst ha; subst hb; rfl
theorem compareFunc_ac (xs ys : List Term) (g : Nat) (caps : List AV) (H : List AObj) (hlen : xs.length < 1099511627776) (hl : xs.length = ys.length) (hg : callOk Tryz.prog g = true) (hsc : ScopedL H.length caps)
    (hf : ∀ i (h : i < xs.length) (h' : i < ys.length) X, ACall Tryz.prog g (encT xs[i] :: encT ys[i] :: caps) X (fun r H' => r = .int .i64 (cmpT xs[i] ys[i]) ∧ H' = X)) :
    ACall Tryz.prog 127 [.sl .none (encTs xs), .sl .none (encTs ys), .fn g caps] H (fun r H' => r = .int .i64 (cmpTs xs ys) ∧ H' = H) := by
  refine ACall_V (H.length) 36 [.tmp 6] Tryz.func127 rfl rfl rfl ?_
  simp only [push_cast, Nat.reduceAdd, Nat.reduceSub, Nat.reduceMul, Nat.reduceLT, Nat.reduceLeDiff, Nat.reduceEqDiff, Int.reduceToNat, ↓reduceIte]
  refine AW_loopW (maskG 39 [0, 0, 0, 8, 0, 0]) (fun (i : Nat) => [(13, .int .i64 i)]) (fun _ => H) (fun i => i ≤ xs.length ∧ ∀ j (h1 : j < xs.length) (h2 : j < ys.length), j < i → cmpT xs[j] ys[j] = 0) (fun i => xs.length - i) 0 ⟨Nat.zero_le _, fun j h1 h2 h => by omega⟩ (by simp only [push_cast, Nat.reduceAdd, Nat.reduceSub, Nat.reduceMul, Nat.reduceLT, Nat.reduceLeDiff, Nat.reduceEqDiff, Int.reduceToNat, ↓reduceIte, hsc]) (fun i hi => ?_)
  simp only [push_cast, Nat.reduceAdd, Nat.reduceSub, Nat.reduceMul, Nat.reduceLT, Nat.reduceLeDiff, Nat.reduceEqDiff, Int.reduceToNat, ↓reduceIte, hg]
  refine cI (fun h => ?_) (fun h => ?_)
  · repeat refine ⟨by omega, ?_⟩
    have hix : i < xs.length := by omega
    have hiy : i < ys.length := by omega
    refine cI (fun h2 => by omega) (fun _ => ?_)
    repeat refine ⟨by omega, ?_⟩
    refine (hf i hix hiy _).to ?_
    simp only [push_cast, Nat.reduceAdd, Nat.reduceSub, Nat.reduceMul, Nat.reduceLT, Nat.reduceLeDiff, Nat.reduceEqDiff, Int.reduceToNat, ↓reduceIte]
    refine cI (fun hp => ?_) (fun hp => ?_)
    · repeat' first | refine ⟨by omega, ?_⟩ | refine cI (fun _ => ?_) (fun _ => ?_)
      refine loopW_n (i + 1) ⟨by omega, fun j j1 j2 hj => ?_⟩ (by omega) (by simp only [push_cast, Nat.reduceAdd, Nat.reduceSub, Nat.reduceMul, Nat.reduceLT, Nat.reduceLeDiff, Nat.reduceEqDiff, Int.reduceToNat, ↓reduceIte, hsc])
      rcases Nat.lt_or_ge j i with hj | hj
      · exact hi.2 j j1 j2 hj
      · have hji : j = i := by omega
        subst hji; exact hp
    · have hq : cmpTs xs ys = cmpT (xs[i]'hix) (ys[i]'hiy) := by rw [cmpTs_drop xs ys i hi.2 hl, List.drop_eq_getElem_cons hix, List.drop_eq_getElem_cons hiy, cmpTs_cons, if_pos hp]
      simp only [push_cast, Nat.reduceAdd, Nat.reduceSub, Nat.reduceMul, Nat.reduceLT, Nat.reduceLeDiff, Nat.reduceEqDiff, Int.reduceToNat, ↓reduceIte, hq]
  · have hq : cmpTs xs ys = 0 := by rw [cmpTs_drop xs ys i hi.2 hl, List.drop_eq_nil_of_le (show xs.length ≤ i by omega)]; exact cmpTs_nil _
    refine cI (fun h2 => by omega) (fun _ => ?_)
    simp only [push_cast, Nat.reduceAdd, Nat.reduceSub, Nat.reduceMul, Nat.reduceLT, Nat.reduceLeDiff, Nat.reduceEqDiff, Int.reduceToNat, ↓reduceIte, hq]
theorem compare_ac (s : Term) : ∀ t : Term, s.bulk ≤ 1099511627775 → t.bulk ≤ 1099511627775 → ∀ H, ACall Tryz.prog 87 [encT s, encT t] H (fun r H' => r = .int .i64 (cmpT s t) ∧ H' = H) := by
  induction s using Term.ind with | _ n v xs ih
  rintro ⟨m, u, ys⟩ hb hb2 H
  have hl1 := Term.len_le (n := n) (v := v) (xs := xs)
  have hl2 := Term.len_le (n := m) (v := u) (xs := ys)
  have hci := cmpI_len xs.length ys.length
  have hcm : cmpT (.mk n v xs) (.mk m u ys) = cmpC n v xs.length m u ys.length (cmpTs xs ys) := rfl
  rw [hcm]
  refine ACall_V (H.length) 33 [.tmp 4] Tryz.func87 rfl rfl rfl ?_
  simp only [push_cast, Nat.reduceAdd, Nat.reduceSub, Nat.reduceMul, Nat.reduceLT, Nat.reduceLeDiff, Nat.reduceEqDiff, Int.reduceToNat, ↓reduceIte]
  refine cI (fun h1 => ?_) (fun h1 => ?_)
  · have h1 : v = u := by simpa using h1
    apply AW_drawE [some 13, some 14, some 15, some 16, some 17, some 18, some 19, some 20, some 21, some 22, some 23, some 24, some 25, some 26, some 5] [([], _)] [none, none, none, none, none, none, none, none, none, none, none, none, none, none, none] 0 [(0, [], [2]), (1, [], [13]), (2, [], [3]), (3, [], [15]), (4, [], [14, 1]), (5, [], [2]), (6, [], [18]), (7, [], [19]), (8, [], [3]), (9, [], [21]), (10, [], [22]), (11, [], [20, 2]), (12, [], [17, 6]), (13, [], [25]), (14, [], [26])] [_, _, _, _, _, _, _, _, _, _, _, _, _, _, _]
    case' hm => exact dr
    case' hn => rfl
    case' hok => rfl
    case' hlen => rfl
    case' hd => rfl
    case' h0 => rfl
    case' hstep =>
     simp only [DAllG, push_cast, Option.isSome_some, Option.isSome_none]
     repeat' apply And.intro
     all_goals (apply DOne_V; simp only [push_cast, Nat.reduceAdd, Nat.reduceSub, Nat.reduceMul, Nat.reduceLT, Nat.reduceLeDiff, Nat.reduceEqDiff, Int.reduceToNat, ↓reduceIte] <;> first | exact rfl | omega | exact ⟨rfl, rfl⟩ | exact trivial | exact ⟨by omega, rfl⟩ | exact ⟨by omega, by omega, rfl⟩ | exact ⟨by omega, rfl, rfl⟩ | exact ⟨by omega, by omega, rfl, rfl⟩ | exact (compareStr_ac n m _).to ⟨rfl, rfl⟩ | exact (cmpCompare_ac _ _ _).to ⟨rfl, rfl⟩ | exact (cmpOr_ac _ _ _).to ⟨rfl, rfl⟩)
    case' hQ => skip
    simp only [push_cast, Nat.reduceAdd, Nat.reduceSub, Nat.reduceMul, Nat.reduceLT, Nat.reduceLeDiff, Nat.reduceEqDiff, Int.reduceToNat, ↓reduceIte]
    refine cI (fun h2 => ?_) (fun h2 => ?_)
    · have hc0 : Lib.compareBytes n m = 0 := by
        by_cases h : Lib.compareBytes n m = 0
        · exact h
        · rw [if_pos h] at h2; exact h2
      rw [if_neg (by simp [hc0])] at h2
      have hll : xs.length = ys.length := hci.1.1 h2
      refine (compareFunc_ac xs ys 87 [] _ (by omega) hll ok87 (by simp [ScopedL]) (fun i h h' X => ih _ (List.getElem_mem h) _ (arg_bulk hb i h) (arg_bulk hb2 i h') X)).to ?_
      simp only [push_cast, Nat.reduceAdd, Nat.reduceSub, Nat.reduceMul, Nat.reduceLT, Nat.reduceLeDiff, Nat.reduceEqDiff, Int.reduceToNat, ↓reduceIte]
      simp [cmpC, h1, hc0, hll]
    · by_cases hc0 : Lib.compareBytes n m = 0
      · rw [if_neg (by simp [hc0])] at h2 ⊢
        have h4 := hci.2 h2 (cmpTs xs ys)
        simp only [cmpC, h1, hc0, h4, ne_eq, not_true_eq_false, if_false]
      · simp [cmpC, h1, hc0]
  · have h1 : ¬ v = u := by simpa using h1
    refine cI (fun hv => ?_) (fun hv => ?_) <;> cases v <;> cases u <;> first | exact absurd rfl h1 | (simp [cmpC]; done) | (simp at hv)
end Ab
set_option maxRecDepth 10000
namespace Ab
open Go Go.Proofs
@[reducible] def encRu (r : Term × Term) : AV := .agg [.str r.1.name, .bool r.1.var, .sl .none (encTs r.1.args), .str r.2.name, .bool r.2.var, .sl .none (encTs r.2.args)]
theorem uniRu (l : List (Term × Term)) : Uni (5 + 1) (encL encRu l) = True := eq_true (uni_encL (enc := encRu) (k := 6) (fun _ => rfl) l)
theorem scRu_ (n : Nat) (l : List (Term × Term)) : ScopedL n (encL encRu l) = True := eq_true (scoped_encL (fun x => by simp [Scoped, ScopedL, scoped_encTs]) l)
attribute [push_cast] uniRu scRu_
theorem firstErr_app : ∀ a b : List Term, firstErr (a ++ b) = if firstErr a = 0 then firstErr b else firstErr a
  | [], b => by simp [firstErr]
  | t :: a, b => by
    have ih := firstErr_app a b
    rw [List.cons_append, firstErr, firstErr, ih]
    by_cases h : checkP t = 0 <;> simp [h]
theorem firstErr_at (ts : List Term) (i : Nat) (h : i < ts.length) (h0 : firstErr (ts.take i) = 0) (he : ¬ checkP ts[i] = 0) : firstErr ts = checkP ts[i] := by
  rw [firstErr_drop _ i h0, List.drop_eq_getElem_cons h]
  simp only [firstErr, he, if_false]
theorem all_ac (ts : List Term) (hlen : ts.length < 1099511627776) (hb : ∀ t, t ∈ ts → t.bulk ≤ 1099511627775) (H : List AObj) : ACall Tryz.prog 128 [.sl .none (encTs ts)] H (fun r H' => r = .int .i64 (firstErr ts) ∧ H' = H) := by
  refine ACall_V (H.length) 17 [.tmp 2] Tryz.func128 rfl rfl rfl ?_
  simp only [push_cast, Nat.reduceAdd, Nat.reduceSub, Nat.reduceMul, Nat.reduceLT, Nat.reduceLeDiff, Nat.reduceEqDiff, Int.reduceToNat, ↓reduceIte]
  refine AW_loopW (maskG 18 [6, 0, 0]) (fun (j : Nat) => [(8, .int .i64 j)]) (fun _ => H) (fun j => j ≤ ts.length ∧ firstErr (ts.take j) = 0) (fun j => ts.length - j) 0 ⟨Nat.zero_le _, rfl⟩ (by simp only [push_cast, Nat.reduceAdd, Nat.reduceSub, Nat.reduceMul, Nat.reduceLT, Nat.reduceLeDiff, Nat.reduceEqDiff, Int.reduceToNat, ↓reduceIte]) (fun j hj => ?_)
  simp only [push_cast, Nat.reduceAdd, Nat.reduceSub, Nat.reduceMul, Nat.reduceLT, Nat.reduceLeDiff, Nat.reduceEqDiff, Int.reduceToNat, ↓reduceIte]
  refine cI (fun h2 => ?_) (fun h2 => ?_)
  · repeat refine ⟨by omega, ?_⟩
    have hjl : j < ts.length := by omega
    refine (check_ac (ts[j]'hjl) (hb _ (List.getElem_mem hjl)) _).to ?_
    simp only [push_cast, Nat.reduceAdd, Nat.reduceSub, Nat.reduceMul, Nat.reduceLT, Nat.reduceLeDiff, Nat.reduceEqDiff, Int.reduceToNat, ↓reduceIte]
    refine cI (fun he => ?_) (fun he => ?_)
    · repeat' first | refine ⟨by omega, ?_⟩ | refine cI (fun _ => ?_) (fun _ => ?_)
      exact loopW_n (j + 1) ⟨by omega, firstErr_take _ j hjl hj.2 he⟩ (by omega) (by simp only [push_cast, Nat.reduceAdd, Nat.reduceSub, Nat.reduceMul, Nat.reduceLT, Nat.reduceLeDiff, Nat.reduceEqDiff, Int.reduceToNat, ↓reduceIte])
    · simp only [push_cast, Nat.reduceAdd, Nat.reduceSub, Nat.reduceMul, Nat.reduceLT, Nat.reduceLeDiff, Nat.reduceEqDiff, Int.reduceToNat, ↓reduceIte, firstErr_at ts j hjl hj.2 he]
  · have e := hj.2
    rw [List.take_of_length_le (by omega)] at e
    simp only [push_cast, Nat.reduceAdd, Nat.reduceSub, Nat.reduceMul, Nat.reduceLT, Nat.reduceLeDiff, Nat.reduceEqDiff, Int.reduceToNat, ↓reduceIte, e]
def rT (rs : List (Term × Term)) : List Term := rs.flatMap fun r => [r.1, r.2]
theorem rT_take (rs : List (Term × Term)) (i : Nat) (h : i < rs.length) : rT (rs.take (i + 1)) = rT (rs.take i) ++ [rs[i].1, rs[i].2] := by
  unfold rT; rw [List.take_succ_eq_append_getElem h, List.flatMap_append]; simp
theorem rT_split (rs : List (Term × Term)) (i : Nat) (h : i < rs.length) : rT rs = rT (rs.take i) ++ ([rs[i].1, rs[i].2] ++ rT (rs.drop (i + 1))) := by
  have : rs = rs.take i ++ (rs[i] :: rs.drop (i + 1)) := by rw [← List.drop_eq_getElem_cons h, List.take_append_drop]
  have h2 := congrArg rT this
  rw [h2]
  unfold rT; rw [List.flatMap_append, List.flatMap_cons]
theorem mem_rT {rs : List (Term × Term)} {t : Term} : t ∈ rT rs ↔ ∃ r, r ∈ rs ∧ (t = r.1 ∨ t = r.2) := by
  unfold rT; rw [List.mem_flatMap]
  constructor
  · rintro ⟨r, hr, h⟩; simp at h; exact ⟨r, hr, h⟩
  · rintro ⟨r, hr, h⟩; exact ⟨r, hr, by simp; exact h⟩
def rulesP (rs : List (Term × Term)) : Int := if rs.length > 64 then 3 else firstErr (rT rs)
theorem checkRules_ac (rs : List (Term × Term)) (hlen : rs.length < 1099511627776) (hb : ∀ r, r ∈ rs → r.1.bulk ≤ 1099511627775 ∧ r.2.bulk ≤ 1099511627775) (H : List AObj) : ACall Tryz.prog 89 [.sl .none (encL encRu rs)] H (fun r H' => r = .int .i64 (rulesP rs) ∧ H' = H) := by
  refine ACall_V (H.length) 24 [.tmp 2] Tryz.func89 rfl rfl rfl ?_
  simp only [push_cast, Nat.reduceAdd, Nat.reduceSub, Nat.reduceMul, Nat.reduceLT, Nat.reduceLeDiff, Nat.reduceEqDiff, Int.reduceToNat, ↓reduceIte]
  refine cI (fun h0 => ?_) (fun h0 => ?_)
  · have e : rulesP rs = 3 := by unfold rulesP; rw [if_pos (by omega)]
    simp only [push_cast, Nat.reduceAdd, Nat.reduceSub, Nat.reduceMul, Nat.reduceLT, Nat.reduceLeDiff, Nat.reduceEqDiff, Int.reduceToNat, ↓reduceIte, e]
  · have hP : rulesP rs = firstErr (rT rs) := by unfold rulesP; rw [if_neg (by omega)]
    refine AW_loopW (maskG 25 [9, 0, 0]) (fun (i : Nat) => [(11, .int .i64 i)]) (fun _ => H) (fun i => i ≤ rs.length ∧ firstErr (rT (rs.take i)) = 0) (fun i => rs.length - i) 0 ⟨Nat.zero_le _, rfl⟩ (by simp only [push_cast, Nat.reduceAdd, Nat.reduceSub, Nat.reduceMul, Nat.reduceLT, Nat.reduceLeDiff, Nat.reduceEqDiff, Int.reduceToNat, ↓reduceIte]) (fun i hi => ?_)
    simp only [push_cast, Nat.reduceAdd, Nat.reduceSub, Nat.reduceMul, Nat.reduceLT, Nat.reduceLeDiff, Nat.reduceEqDiff, Int.reduceToNat, ↓reduceIte]
    refine cI (fun h => ?_) (fun h => ?_)
    · repeat refine ⟨by omega, ?_⟩
      have hil : i < rs.length := by omega
      have hbi := hb _ (List.getElem_mem hil)
      have hal := fun H => all_ac [(rs[i]'hil).1, (rs[i]'hil).2] (by simp) (by intro t ht; simp at ht; rcases ht with rfl | rfl; exact hbi.1; exact hbi.2) H
      rw [encTs_cons, encTs_cons, encTs_nil] at hal
      refine (hal _).to ?_
      simp only [push_cast, Nat.reduceAdd, Nat.reduceSub, Nat.reduceMul, Nat.reduceLT, Nat.reduceLeDiff, Nat.reduceEqDiff, Int.reduceToNat, ↓reduceIte]
      refine cI (fun he => ?_) (fun he => ?_)
      · repeat' first | refine ⟨by omega, ?_⟩ | refine cI (fun _ => ?_) (fun _ => ?_)
        refine loopW_n (i + 1) ⟨by omega, ?_⟩ (by omega) (by simp only [push_cast, Nat.reduceAdd, Nat.reduceSub, Nat.reduceMul, Nat.reduceLT, Nat.reduceLeDiff, Nat.reduceEqDiff, Int.reduceToNat, ↓reduceIte])
        rw [rT_take rs i hil, firstErr_app, if_pos hi.2]; exact he
      · have e : firstErr (rT rs) = firstErr [(rs[i]'hil).1, (rs[i]'hil).2] := by
          rw [rT_split rs i hil, firstErr_app, if_pos hi.2, firstErr_app, if_neg he]
        simp only [push_cast, Nat.reduceAdd, Nat.reduceSub, Nat.reduceMul, Nat.reduceLT, Nat.reduceLeDiff, Nat.reduceEqDiff, Int.reduceToNat, ↓reduceIte, hP, e]
    · have e := hi.2
      rw [List.take_of_length_le (by omega)] at e
      simp only [push_cast, Nat.reduceAdd, Nat.reduceSub, Nat.reduceMul, Nat.reduceLT, Nat.reduceLeDiff, Nat.reduceEqDiff, Int.reduceToNat, ↓reduceIte, hP, e]
end Ab
set_option maxRecDepth 10000
namespace Ab
open Go Go.Proofs Go.Proofs.YtpgjcbeoipldgaaGreat
section
variable {H : Type}
theorem kdRule : kindOf Tryz.prog 94 = .struct [25, 25] := by kernel_rfl
theorem kdRules : kindOf Tryz.prog 22 = .slice 94 := by kernel_rfl
theorem agRule : aggK Tryz.prog 94 = true := by unfold aggK; rw [kdRule]
theorem len_sum {α : Type} (f : α → Nat) (xs : List α) {k : Nat} (h : (xs.map fun x => f x + 1).sum ≤ k) : xs.length ≤ k ∧ ∀ x, x ∈ xs → f x ≤ k := by
  induction xs generalizing k with
  | nil => simp
  | cons a r ih =>
    simp only [List.map_cons, List.sum_cons] at h
    obtain ⟨h1, h2⟩ := ih (k := k - (f a + 1)) (by omega)
    refine ⟨by simp; omega, fun x hx => ?_⟩
    rcases List.mem_cons.1 hx with rfl | hx
    · omega
    · have := h2 x hx; omega
theorem rule_form (n : Nat) (d : DataW H) (avs : List AV) (h : toAV Tryz.prog n 94 d = some avs) : ∃ r : Term × Term, .agg avs = encRu r ∧ r.1.bulk + r.2.bulk + 1 ≤ Rows.uptoBulk d := by
  obtain ⟨m, parts, avss, rfl, rfl, hl, hm, rfl⟩ := toAV_struct kdRule h
  match parts, hl, hm with
  | [d1, d2], _, hm =>
    obtain ⟨h1, h2⟩ := mapM_get hm
    match avss, h1, h2 with
    | [a1, a2], _, h2 =>
      obtain ⟨a, e1, b1⟩ := term_form m d1 a1 (h2 0 (by simp) (by simp))
      obtain ⟨b, e2, b2⟩ := term_form m d2 a2 (h2 1 (by simp) (by simp))
      injection e1 with e1; injection e2 with e2
      subst e1; subst e2
      exact ⟨(a, b), by simp, by simp only [Rows.uptoBulk, Rows.uptoBulkAll]; omega⟩
theorem rules_form (n : Nat) (d : DataW H) (avs : List AV) (h : toAV Tryz.prog n 22 d = some avs) : ∃ rs : List (Term × Term), avs = [.sl .none (encL encRu rs)] ∧ rs.length ≤ Rows.uptoBulk d ∧ ∀ r, r ∈ rs → r.1.bulk + r.2.bulk ≤ Rows.uptoBulk d := by
  obtain ⟨xs, ds, e3, hw, _, hd⟩ := row_form (fun r : Term × Term => encRu r) (fun r => r.1.bulk + r.2.bulk + 1) Rows.uptoBulk kdRules (n := n) (fun k d avs _ he => by
    obtain ⟨t, x1, x2⟩ := rule_form k d avs he
    exact ⟨t, by rw [agRule]; exact x1, x2⟩) h
  have hb := bulk_row hd
  have := len_sum (fun r : Term × Term => r.1.bulk + r.2.bulk) xs (k := Rows.uptoBulk d) (by omega)
  exact ⟨xs, e3, this.1, this.2⟩
end
end Ab
set_option maxRecDepth 10000
set_option linter.unusedVariables false
set_option linter.unusedSimpArgs false
namespace Go.Proofs
open Go.Shelf Go.RowKit Go.Lib Ab
theorem overlaps_no {P : Program} (w : World) (tS tR e : TypeId) (ht : P.underlying tS = some (.slice e)) (size : Nat) (hz : ∀ w, (Go.sizeOf e).run P w = .ok size w)
    (a b : Addr) (la ca lb cb : Nat) (hne : a.block ≠ b.block) (tA tB : TypeId) (kA kB : Nat)
    (hsa : w.shape? a.block = some (tA, kA)) (hkA : kA ≠ 0) (hsb : w.shape? b.block = some (tB, kB)) (hkB : kB ≠ 0)
    (hfb : w.frozen? b = false) (hfe : w.frozen? { block := b.block, off := kB } = false) :
    (Extern.SlicesOverlaps.overlaps #[tS, tS] #[tR] #[.slice (some a) la ca, .slice (some b) lb cb]).run P w = .ok (.bool false) w := by
  have hnb : (a.block != b.block) = true := by simpa using hne
  have hnb' : (a.block == b.block) = false := by simpa using hne
  change Sem.run P (α := Value) (do
    let some t := (#[tS, tS] : Array TypeId)[0]? | stuck "slices.overlaps: no parameter types"
    let .slice elem ← underlying t | stuck "slices.overlaps: slice type expected"
    let size ← sizeOf elem
    match (some a : Option Addr), (some b : Option Addr) with
    | some a, some b =>
      if la = 0 ∨ lb = 0 ∨ size = 0 then pure (Value.bool false)
      else if a.block != b.block && (← frozen a) && (← frozen b) then unsupported .addressObserved
      else do
        if a.block != b.block then do
          noView a; noView b
          if ← mayBeOne a b then return Value.bool ((← choose (.extern "sameAddr.stringBytes" 2)) == 1)
        pure (Value.bool (a.block == b.block && a.off < b.off + lb * size && b.off < a.off + la * size))
    | _, _ => pure (Value.bool false)) w = _
  by_cases h0 : la = 0 ∨ lb = 0 ∨ size = 0
  · simp [run_underlying ht, hz, h0]
  · cases kB with
    | zero => exact absurd rfl hkB
    | succ kB =>
      cases kA with
      | zero => exact absurd rfl hkA
      | succ kA =>
        cases hfa : w.frozen? a with
        | true => simp [run_underlying ht, hz, h0, hnb, hnb', frozen, noView, viewAt, mayBeOne, stringish, shape, Sem.run, hsa, hsb, hfa, hfb, hfe]
        | false =>
          cases hfA : w.frozen? { block := a.block, off := kA + 1 } with
          | true => simp [run_underlying ht, hz, h0, hnb, hnb', frozen, noView, viewAt, mayBeOne, stringish, shape, Sem.run, hsa, hsb, hfa, hfb, hfe, hfA]
          | false => simp [run_underlying ht, hz, h0, hnb, hnb', frozen, noView, viewAt, mayBeOne, stringish, shape, Sem.run, hsa, hsb, hfa, hfb, hfe, hfA]
theorem run_copy_k {P : Program} (w : World) (dT sT ty elem : TypeId) (k : Nat) (b o dLen dCap : Nat) (a : Addr) (sLen sCap : Nat) (cs : List Value)
    (hu : P.underlying dT = some (.slice elem)) (hs : (P.info? elem).map (·.size) = some k) (hn : cs.length = Nat.min sLen dLen * k)
    (hsrc : ∀ j v, cs[j]? = some v → w.cell? (a.add j) = some v) (hc : ∀ j, j < cs.length → (w.cell? ⟨b, o + j, none⟩).isSome = true) (hf : ∀ j, j < cs.length → w.frozen? ⟨b, o + j, none⟩ = false) (h1 : ∀ v ∈ cs, v.oneCell' = true) :
    (Builtin.copy_ #[dT, sT] ty #[.slice (some ⟨b, o, none⟩) dLen dCap, .slice (some a) sLen sCap]).run P w = .ok (goInt (Nat.min sLen dLen)) (w.setCells b o cs) := by
  have hl := run_loadCells_list (P := P) w a cs hsrc
  have hst := run_storeCells_cells (P := P) b o cs 0 w (by simpa using hc) (by simpa using hf) h1
  cases hq : P.info? elem with
  | none => simp [hq] at hs
  | some i =>
    have hi : i.size = k := by simpa [hq] using hs
    simp [Builtin.copy_, run_underlying hu, Builtin.lenOf, Builtin.firstCells, sizeOf, typeInfo, hq, hi, ← hn, hl, hst]
set_option maxHeartbeats 4000000 in
set_option maxRecDepth 100000 in
theorem Tryz.insShift (b n c i vb voff vc : Nat) (cs vs : List Value) (w : World) (hi : i < n) (hroom : n + 1 ≤ c) (hc63 : c ≤ 9223372036854775807) (hvb : vb ≠ b)
    (hcl : cs.length = n * 4) (hvl : vs.length = 4)
    (hcs : ∀ j v, cs[j]? = some v → w.cell? ⟨b, j, none⟩ = some v) (hsp : ∀ j, j < (n + 1) * 4 → (w.cell? ⟨b, j, none⟩).isSome = true) (hfz : ∀ j, w.frozen? ⟨b, j, none⟩ = false)
    (hvs : ∀ j v, vs[j]? = some v → w.cell? ⟨vb, voff + j, none⟩ = some v) (h1c : ∀ v ∈ cs, v.oneCell' = true) (h1v : ∀ v ∈ vs, v.oneCell' = true)
    (tA tB : TypeId) (kA kB : Nat) (hsa : w.shape? vb = some (tA, kA)) (hkA : kA ≠ 0) (hsb : w.shape? b = some (tB, kB)) (hkB : kB ≠ 0) :
    Calls Tryz.prog 201 #[.slice (some ⟨b, 0, none⟩) n c, .int .i64 i, .slice (some ⟨vb, voff, none⟩) 1 vc] w fun e w' =>
      e = .returned (.slice (some ⟨b, 0, none⟩) (n + 1) c) ∧ w' = (w.drew.setCells b ((i + 1) * 4) (cs.drop (i * 4))).setCells b (i * 4) vs := by
  have mixed := dr
  have hz2 : ¬ ((i : Int) = (n : Int)) := by omega
  have hsz : (Tryz.prog.info? 107).map (·.size) = some 4 := sz107
  have hov : ∀ lb cb, (callFunc 206 #[.slice (some ⟨vb, voff, none⟩) 1 vc, .slice (some ⟨b, (i + 1) * 4, none⟩) lb cb]).run Tryz.prog w = .ok (.value (.bool false)) w := fun lb cb => by
    rw [run_callFunc_extern Tryz.func206 (by kernel_rfl) (by kernel_rfl) (by kernel_rfl) (e := Extern.SlicesOverlaps.overlaps #[49, 49] #[4]) (by kernel_rfl),
      overlaps_no w 49 4 107 Tryz.underlying49 4 Tryz.sizeOf107 ⟨vb, voff, none⟩ ⟨b, (i + 1) * 4, none⟩ 1 vc lb cb hvb tA tB kA kB hsa hkA hsb hkB (hfz _) (hfz _)]
    rfl
  have hdl : (cs.drop (i * 4)).length = (n - i) * 4 := by rw [List.length_drop, hcl, Nat.sub_mul]
  have hsz1 : ∀ j, j < (cs.drop (i * 4)).length → (i + 1) * 4 + j < (n + 1) * 4 := fun j hj => by rw [hdl] at hj; omega
  have hw1 : IntKind.i64.wrap ((i : Int) + 1) = (i : Int) + 1 := by rw [IntKind.wrap_i64]; omega
  have hw2 : IntKind.i64.wrap ((n : Int) + 1) = (n : Int) + 1 := by rw [IntKind.wrap_i64]; omega
  have hb1 : (0 : Int) ≤ (i : Int) + 1 := by omega
  have hin : i ≤ n := by omega
  have htn : ((i : Int) + 1).toNat = i + 1 := by omega
  have htn2 : ((n : Int) + 1).toNat = n + 1 := by omega
  have hb2 : ¬ (c = i + 1) := by omega
  have hb3 : (i : Int) ≤ (n : Int) + 1 := by omega
  have hb4 : ¬ (c = i) := by omega
  have hb5 : ¬ ((c : Int) < (n : Int) + 1) := by omega
  have hb6 : n + 1 - (i + 1) = n - i := by omega
  have hmin1 : Nat.min (n + 1 - i) (n - i) = n - i := by simp only [Nat.min_def]; split <;> omega
  have hmin2 : Nat.min 1 (n + 1 - i) = 1 := by simp only [Nat.min_def]; split <;> omega
  have hcp1 : ∀ ty dc sc, (Builtin.copy_ #[49, 49] ty #[.slice (some ⟨b, (i + 1) * 4, none⟩) (n - i) dc, .slice (some ⟨b, i * 4, none⟩) (n + 1 - i) sc]).run Tryz.prog w.drew = .ok (goInt (n - i : Nat)) (w.drew.setCells b ((i + 1) * 4) (cs.drop (i * 4))) := fun ty dc sc => by
    have := run_copy_k (P := Tryz.prog) w.drew 49 49 ty 107 4 b ((i + 1) * 4) (n - i) dc ⟨b, i * 4, none⟩ (n + 1 - i) sc (cs.drop (i * 4)) Tryz.underlying49 hsz (by rw [hdl, hmin1])
      (fun j v hj => by rw [Addr.add_lit]; exact hcs (i * 4 + j) v (by rwa [List.getElem?_drop] at hj))
      (fun j hj => hsp _ (hsz1 j hj)) (fun j hj => hfz _) (fun v hv => h1c v (List.mem_of_mem_drop hv))
    rw [hmin1] at this
    exact this
  obtain ⟨W1, hW1⟩ : ∃ W1, W1 = w.drew.setCells b ((i + 1) * 4) (cs.drop (i * 4)) := ⟨_, rfl⟩
  have hsp1 : ∀ k, k < (n + 1) * 4 → (W1.cell? ⟨b, k, none⟩).isSome = true := fun k hk => by
    rw [hW1]
    exact isSome_setCells b _ _ w.drew (fun j hj => hsp _ (hsz1 j hj)) _ (hsp k hk)
  have hcp2 : ∀ (W : World), (∀ x, W.cell? x = W1.cell? x) → (∀ x, W.frozen? x = W1.frozen? x) → ∀ ty dc, (Builtin.copy_ #[49, 49] ty #[.slice (some ⟨b, i * 4, none⟩) (n + 1 - i) dc, .slice (some ⟨vb, voff, none⟩) 1 vc]).run Tryz.prog W = .ok (goInt (1 : Nat)) (W.setCells b (i * 4) vs) := fun W hWc hWf ty dc => by
    have := run_copy_k (P := Tryz.prog) W 49 49 ty 107 4 b (i * 4) (n + 1 - i) dc ⟨vb, voff, none⟩ 1 vc vs Tryz.underlying49 hsz (by rw [hvl, hmin2])
      (fun j v hj => by
        rw [Addr.add_lit, hWc, hW1, World.cell?_setCells_out b _ _ _ _ (fun h _ => absurd h hvb)]
        exact hvs j v hj)
      (fun j hj => by rw [hWc]; exact hsp1 _ (by omega)) (fun j hj => by rw [hWf, hW1, World.frozen?_setCells]; exact hfz _) h1v
    rw [hmin2] at this
    exact this
  rw [← hW1] at hcp1
  go_enter Tryz.func201, Tryz.ntmps201
  go_wp2_with (simp only [hov])
  go_region_law_o (refine step_copy_runI rfl _ _ 49 49 rfl _ _ (by simp [Act.eval, Act.put]) (by simp [Act.eval, Act.put]) (hcp1 _ _ _) ?_)
  go_wp2_with (at_builtin; refine wpList_copy_runI _ rfl _ _ 49 49 rfl _ _ rfl rfl (hcp2 _ (fun _ => rfl) (fun _ => rfl) _ _) ?_)
  go_ret
  first | exact ⟨rfl, rfl⟩ | exact ⟨rfl, by rw [hW1]⟩
set_option maxHeartbeats 4000000 in
set_option maxRecDepth 100000 in
theorem Tryz.insGrow (b n c i vb voff vc : Nat) (cs vs : List Value) (w : World) (zs : Array Value) (hi : i < n) (hnc : n ≤ c) (hroom : c < n + 1) (hbig : (n + 1) * 64 ≤ 140737488355328)
    (hcl : cs.length = n * 4) (hvl : vs.length = 4)
    (hcs : ∀ j v, cs[j]? = some v → w.cell? ⟨b, j, none⟩ = some v)
    (hvs : ∀ j v, vs[j]? = some v → w.cell? ⟨vb, voff + j, none⟩ = some v) (h1c : ∀ v ∈ cs, v.oneCell' = true) (h1v : ∀ v ∈ vs, v.oneCell' = true) :
    Calls Tryz.prog 201 #[.slice (some ⟨b, 0, none⟩) n c, .int .i64 i, .slice (some ⟨vb, voff, none⟩) 1 vc] w fun e w' =>
      ∃ (G : Nat) (z : Array Value), n + 1 ≤ G ∧ G ≤ maxLen ∧ z.size = 4 ∧ e = .returned (.slice (some ⟨w.heap.size, 0, none⟩) (n + 1) G) ∧
      w' = (((w.alloc (.cells ((cs.take (i * 4)).toArray ++ Builtin.zeroCells z (n + 1 - i) ++ Builtin.zeroCells z (G - (n + 1))) 107)).drew.setCells w.heap.size (i * 4) vs).drew).setCells w.heap.size ((i + 1) * 4) (cs.drop (i * 4)) := by
  have mixed := dr
  obtain ⟨i0, z0, hi0, hzs, hzb, hz0, hzc⟩ := info_of sz107 by107 zr107
  have hz2 : ¬ ((i : Int) = (n : Int)) := by omega
  have hz3 : (c : Int) < (n : Int) + 1 := by omega
  have hsz : (Tryz.prog.info? 107).map (·.size) = some 4 := sz107
  have hbw : b < w.heap.size := block_lt_of_cell (hcs 0 _ (List.getElem?_eq_getElem (by omega)))
  have hvw : vb < w.heap.size := block_lt_of_cell (hvs 0 _ (List.getElem?_eq_getElem (by omega)))
  have hkk : (n : Int) + 1 - (i : Int) = ((n + 1 - i : Nat) : Int) := by omega
  have hik : i + (n + 1 - i) = n + 1 := by omega
  have htl : (cs.take (i * 4)).length = i * 4 := by rw [List.length_take, hcl]; omega
  have hold : (Builtin.firstCells i0.size i (.slice (some ⟨b, 0, none⟩) i c)).run Tryz.prog w.drew = .ok (cs.take (i * 4)).toArray w.drew := by
    rw [hzs]
    exact run_firstCells_some w.drew 4 i ⟨b, 0, none⟩ i c (cs.take (i * 4)) (by rw [htl]) (fun j v hj => by
      rw [Addr.add_lit]
      rw [List.getElem?_take] at hj
      split at hj
      · rw [Nat.zero_add]; exact hcs j v hj
      · cases hj)
  have hrz : ∀ ty, (Builtin.append_ #[49, 3] ty #[.slice (some ⟨b, 0, none⟩) i c, .int .i64 ((n : Int) + 1 - (i : Int))]).run Tryz.prog w =
      .ok (.slice (some ⟨w.heap.size, 0, none⟩) (n + 1) (grownCap w (n + 1) c 107)) (w.drew.alloc (.cells ((cs.take (i * 4)).toArray ++ Builtin.zeroCells z0.cells (n + 1 - i) ++ Builtin.zeroCells z0.cells (grownCap w (n + 1) c 107 - (n + 1))) 107)) := fun ty => by
    have h := Lib.run_append_grow_zeros w 49 3 ty 107 i0 z0 .i64 .i64 Tryz.underlying49 Tryz.underlying3 hi0 hz0 (some ⟨b, 0, none⟩) i c (cs.take (i * 4)) hold (n + 1 - i) (by omega) (by omega) (by omega) (by omega) (by rw [hzb]; omega) (by rw [hzb, hik]; exact growslice_fits hroom hbig)
    rw [hik] at h
    rw [hkk]
    exact h
  obtain ⟨G, hG⟩ : ∃ G, G = grownCap w (n + 1) c 107 := ⟨_, rfl⟩
  have hzsz : z0.cells.size = 4 := by have := congrArg List.length hzc; simpa using this
  obtain ⟨ROW, hROW⟩ : ∃ ROW : Array Value, ROW = (cs.take (i * 4)).toArray ++ Builtin.zeroCells z0.cells (n + 1 - i) ++ Builtin.zeroCells z0.cells (G - (n + 1)) := ⟨_, rfl⟩
  rw [← hG] at hrz
  rw [← hROW] at hrz
  have hRl : (n + 1) * 4 ≤ ROW.size := by
    rw [hROW]
    simp only [Array.size_append, List.size_toArray, size_zeroCells, hzsz, htl]
    omega
  obtain ⟨W1, hW1⟩ : ∃ W1, W1 = w.drew.alloc (.cells ROW 107) := ⟨_, rfl⟩
  rw [← hW1] at hrz
  have hN : ∀ j, j < (n + 1) * 4 → (W1.cell? ⟨w.heap.size, j, none⟩).isSome = true := fun j hj => by
    rw [hW1, World.cell?_alloc_at (w := w.drew) ROW _ w.heap.size j rfl, Array.getElem?_eq_getElem (by omega)]; rfl
  have hNf : ∀ j, W1.frozen? ⟨w.heap.size, j, none⟩ = false := fun j => by rw [hW1]; exact World.frozen?_alloc_at (w := w.drew) ROW _ w.heap.size j rfl
  have hOb : ∀ j v, w.cell? ⟨b, j, none⟩ = some v → W1.cell? ⟨b, j, none⟩ = some v := fun j v h => by rw [hW1, World.cell?_alloc_past (w := w.drew) _ b j hbw]; exact h
  have hOv : ∀ j v, w.cell? ⟨vb, j, none⟩ = some v → W1.cell? ⟨vb, j, none⟩ = some v := fun j v h => by rw [hW1, World.cell?_alloc_past (w := w.drew) _ vb j hvw]; exact h
  have hminA : Nat.min 1 (n + 1 - i) = 1 := by simp only [Nat.min_def]; split <;> omega
  have hcpA : ∀ (W : World), (∀ x, W.cell? x = W1.cell? x) → (∀ x, W.frozen? x = W1.frozen? x) → ∀ ty dc, (Builtin.copy_ #[49, 49] ty #[.slice (some ⟨w.heap.size, i * 4, none⟩) (n + 1 - i) dc, .slice (some ⟨vb, voff, none⟩) 1 vc]).run Tryz.prog W = .ok (goInt (1 : Nat)) (W.setCells w.heap.size (i * 4) vs) := fun W hWc hWf ty dc => by
    have := run_copy_k (P := Tryz.prog) W 49 49 ty 107 4 w.heap.size (i * 4) (n + 1 - i) dc ⟨vb, voff, none⟩ 1 vc vs Tryz.underlying49 hsz (by rw [hvl, hminA])
      (fun j v hj => by rw [Addr.add_lit, hWc]; exact hOv _ v (hvs j v hj))
      (fun j hj => by rw [hWc]; exact hN _ (by omega)) (fun j hj => by rw [hWf]; exact hNf _) h1v
    rw [hminA] at this
    exact this
  have hGn : n + 1 ≤ G := by rw [hG]; exact grownCap_ge w _ _ _
  have hGm : G ≤ maxLen := by rw [hG]; exact grownCap_le_maxLen w (n + 1) c 107 (by unfold maxLen; omega)
  have hG63 : G ≤ 9223372036854775807 := by unfold maxLen at hGm; omega
  have hGi : ¬ (G = i) := by omega
  have hGim : ¬ (G = i + 1) := by omega
  have hci : ¬ (c = i) := by omega
  have hbN : b ≠ w.heap.size := by omega
  have hdl : (cs.drop (i * 4)).length = (n - i) * 4 := by rw [List.length_drop, hcl, Nat.sub_mul]
  have hsz1 : ∀ j, j < (cs.drop (i * 4)).length → (i + 1) * 4 + j < (n + 1) * 4 := fun j hj => by rw [hdl] at hj; omega
  have hb6 : n + 1 - (i + 1) = n - i := by omega
  have hminB : Nat.min (n - i) (n - i) = n - i := Nat.min_self _
  have hcpB : ∀ (W : World), (∀ x, W.cell? x = (W1.setCells w.heap.size (i * 4) vs).cell? x) → (∀ x, W.frozen? x = (W1.setCells w.heap.size (i * 4) vs).frozen? x) → ∀ ty dc sc, (Builtin.copy_ #[49, 49] ty #[.slice (some ⟨w.heap.size, (i + 1) * 4, none⟩) (n - i) dc, .slice (some ⟨b, i * 4, none⟩) (n - i) sc]).run Tryz.prog W = .ok (goInt (n - i : Nat)) (W.setCells w.heap.size ((i + 1) * 4) (cs.drop (i * 4))) := fun W hWc hWf ty dc sc => by
    have := run_copy_k (P := Tryz.prog) W 49 49 ty 107 4 w.heap.size ((i + 1) * 4) (n - i) dc ⟨b, i * 4, none⟩ (n - i) sc (cs.drop (i * 4)) Tryz.underlying49 hsz (by rw [hdl, hminB])
      (fun j v hj => by
        rw [Addr.add_lit, hWc, World.cell?_setCells_out _ _ _ _ _ (fun h _ => absurd h hbN)]
        exact hOb _ v (hcs (i * 4 + j) v (by rwa [List.getElem?_drop] at hj)))
      (fun j hj => by rw [hWc]; exact isSome_setCells _ _ _ _ (fun t ht => hN _ (by omega)) _ (hN _ (hsz1 j hj)))
      (fun j hj => by rw [hWf, World.frozen?_setCells]; exact hNf _) (fun v hv => h1c v (List.mem_of_mem_drop hv))
    rw [hminB] at this
    exact this
  subst hW1
  have hE1 : ∀ x, ((w.alloc (.cells ROW 107)).drew).cell? x = (w.drew.alloc (.cells ROW 107)).cell? x := fun x => rfl
  have hE2 : ∀ x, ((w.alloc (.cells ROW 107)).drew).frozen? x = (w.drew.alloc (.cells ROW 107)).frozen? x := fun x => rfl
  have hF1 : ∀ x, (((w.alloc (.cells ROW 107)).drew.setCells w.heap.size (i * 4) vs).drew).cell? x = ((w.drew.alloc (.cells ROW 107)).setCells w.heap.size (i * 4) vs).cell? x := fun x => rfl
  have hF2 : ∀ x, (((w.alloc (.cells ROW 107)).drew.setCells w.heap.size (i * 4) vs).drew).frozen? x = ((w.drew.alloc (.cells ROW 107)).setCells w.heap.size (i * 4) vs).frozen? x := fun x => rfl
  have hw1 : IntKind.i64.wrap ((i : Int) + 1) = (i : Int) + 1 := by rw [IntKind.wrap_i64]; omega
  have hw2 : IntKind.i64.wrap ((n : Int) + 1) = (n : Int) + 1 := by rw [IntKind.wrap_i64]; omega
  have hw3 : IntKind.i64.wrap ((n : Int) + 1 - (i : Int)) = (n : Int) + 1 - (i : Int) := by rw [IntKind.wrap_i64]; omega
  have hb1 : (0 : Int) ≤ (i : Int) + 1 := by omega
  have hin : i ≤ n := by omega
  have htn : ((i : Int) + 1).toNat = i + 1 := by omega
  have hb3 : (i : Int) ≤ (n : Int) := by omega
  have hb7 : (i : Int) ≤ (n : Int) + 1 := by omega
  have hb8 : (i : Int) ≤ (c : Int) := by omega
  refine Calls.mono (R := fun e w' => e = .returned (.slice (some ⟨w.heap.size, 0, none⟩) (n + 1) G) ∧ w' = (((w.alloc (.cells ROW 107)).drew.setCells w.heap.size (i * 4) vs).drew).setCells w.heap.size ((i + 1) * 4) (cs.drop (i * 4))) ?_ (fun e w' h => ⟨G, z0.cells, hGn, hGm, hzsz, h.1, by rw [← hROW]; exact h.2⟩)
  clear hkk hik hold hROW hG hRl
  go_enter Tryz.func201, Tryz.ntmps201
  go_wp2_with (first
    | (at_builtin; refine Lib.wpList_append_run _ rfl _ _ _ _ rfl _ _ rfl rfl _ _ (hrz _) ?_)
    | (at_builtin; refine wpList_copy_runI _ rfl _ _ 49 49 rfl _ _ rfl rfl (hcpA _ hE1 hE2 _ _) ?_)
    | (at_builtin; refine wpList_copy_runI _ rfl _ _ 49 49 rfl _ _ rfl rfl (hcpB _ (fun _ => rfl) (fun _ => rfl) _ _ _) ?_))
  go_region_law_o (refine step_copy_runI rfl _ _ 49 49 rfl (.slice (some ⟨w.heap.size, (i + 1) * 4, none⟩) (n - i) (G - (i + 1))) (.slice (some ⟨b, i * 4, none⟩) (n - i) (c - i)) (by simp [Act.eval, Act.put]) (by simp [Act.eval, Act.put]) (hcpB _ hF1 hF2 3 (G - (i + 1)) (c - i)) ?_)
  go_wp2
  go_ret
  exact ⟨rfl, rfl⟩
end Go.Proofs
