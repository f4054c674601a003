/- Part 1 of 5 of a proof. The law DeriveWhole of chapter 05 returns true at every input up to the bound: a whole graph holds every derivation, and none is longer than the longest one. -/
import Derived.WalkKit
import Derived.Lib.ItoaNum
import Derived.RangeFuncLeaves
import Derived.OrdersIn
import Derived.Lib.Strings
import Derived.IntWalk
import Derived.WideShapes
import Derived.WalkSpells
import Derived.Laws.Strings
import Derived.Lib.ConvBytes
import Derived.MapKept
import Derived.Maps.RangeRun
import Derived.Carry
import Derived.RangeFuncRecord
set_option linter.unusedVariables false
set_option linter.unusedSimpArgs false
namespace Ab
open Go
def tabOn : Bool := false
def tabB : Nat := 1
def tabA : Array Value := (Lib.pow10Tab.map fun z => Value.int .u64 z).toArray
end Ab
namespace Ab
open Go
inductive Tok where
  | none
  | zero
  | own (k : Nat)
inductive AV where
  | junk
  | bool (b : Bool)
  | int (k : IntKind) (n : Int)
  | str (s : List UInt8)
  | sl (t : Tok) (xs : List AV)
  | arr (id off len : Nat)
  | gr (id n : Nat)
  | gptr (id n off : Nat)
  | ptr (id off : Nat)
  | cptr (cs : List AV)
  | map (id : Nat)
  | iter (id : Nat)
  | fn (f : Nat) (caps : List AV)
  | yld (id : Nat)
  | agg (cs : List AV)
  | tup (vs : List AV)
  | lit (v : Value)
  deriving Inhabited
def AV.cells : AV → List AV
  | .agg cs => cs
  | v => [v]
def AV.isCell : AV → Bool
  | .junk | .agg _ | .tup _ => false
  | .lit v => v.oneCell'
  | _ => true
inductive AObj where
  | cells (vs : List AV)
  | tok (e : TypeId) (sz len : Nat)
  | map (ver : Nat) (es : List (AV × AV))
  | iter (m ver : Nat) (left : List (AV × AV)) (last : Option (AV × AV))
  | loop (slots : List AV) (stt : LoopState) (pend : Option Code) (ps : Array Tmp) (assign body : Code)
  | grow (e : TypeId) (sz : Nat) (vs : List AV)
  | dead
def AObj.kind : AObj → Nat
  | .cells _ => 0
  | .tok .. => 1
  | .map .. => 2
  | .iter .. => 3
  | .loop .. => 4
  | .grow .. => 1
  | .dead => 6
structure Ctx where
  S : Nat → Nat
  μ : Nat → Nat
  H : List AObj
  w : World
def flat (xs : List AV) : List AV := xs.flatMap AV.cells
def TokOk (C : Ctx) (t : Tok) (n : Nat) (a : Option Addr) (c : Nat) : Prop :=
  match t with
  | .none => True
  | .zero => n = 0 ∧ c = 0
  | .own k => ∃ e sz len, C.H[k]? = some (.tok e sz len) ∧ n ≤ len ∧
      (n = len → ∃ cur, a = some ⟨C.μ k, 0, none⟩ ∧ C.w.heap[C.μ k]? = some (.cells cur e (0, 0)) ∧ c ≤ maxLen ∧ cur.size = c * sz)
def RowOk (C : Ctx) (n b o : Nat) (f : Nat → Value) : Prop :=
  ∀ j, j < n → o + j < C.S b ∧ C.w.cell? ⟨b, o + j, none⟩ = some (f j)
def OfKind (C : Ctx) (k kd : Nat) : Prop := ∃ o : AObj, C.H[k]? = some o ∧ o.kind = kd
def GrOk (C : Ctx) (k n : Nat) (a : Option Addr) (c : Nat) : Prop :=
  ∃ e sz vs, C.H[k]? = some (.grow e sz vs) ∧ n * sz ≤ vs.length ∧ 0 < sz ∧
    (n * sz = vs.length → ∃ cur, a = some ⟨C.μ k, 0, none⟩ ∧ C.w.heap[C.μ k]? = some (.cells cur e (0, 0)) ∧ c ≤ maxLen ∧ n ≤ c ∧ cur.size = c * sz)
def GpOk (C : Ctx) (k n off : Nat) (a : Option Addr) : Prop :=
  ∃ e sz vs, C.H[k]? = some (.grow e sz vs) ∧ n ≤ vs.length ∧ (n = vs.length → a = some ⟨C.μ k, off, none⟩)
inductive VRel (C : Ctx) : AV → Value → Prop
  | junk (v : Value) : VRel C .junk v
  | bool (b : Bool) : VRel C (.bool b) (.bool b)
  | int (k : IntKind) (n : Int) : VRel C (.int k n) (.int k n)
  | str (s : List UInt8) : VRel C (.str s) (.string ⟨s.toArray⟩)
  | sl (t : Tok) (xs : List AV) (a : Option Addr) (n c : Nat) (f : Nat → Value) (hn : n = xs.length) (hc : n ≤ c)
      (hrow : flat xs ≠ [] → ∃ b o, a = some ⟨b, o, none⟩ ∧ RowOk C (flat xs).length b o f)
      (hrel : ∀ j (h : j < (flat xs).length), VRel C (flat xs)[j] (f j)) (htok : TokOk C t n a c) : VRel C (.sl t xs) (.slice a n c)
  | arr (id off len c : Nat) (hk : OfKind C id 0) (hc : len ≤ c) : VRel C (.arr id off len) (.slice (some ⟨C.μ id, off, none⟩) len c)
  | gr (id n : Nat) (a : Option Addr) (c : Nat) (hg : GrOk C id n a c) : VRel C (.gr id n) (.slice a n c)
  | gptr (id n off : Nat) (a : Option Addr) (hg : GpOk C id n off a) : VRel C (.gptr id n off) (.pointer a)
  | ptr (id off : Nat) (hk : OfKind C id 0) : VRel C (.ptr id off) (.pointer (some ⟨C.μ id, off, none⟩))
  | cptr (cs : List AV) (b o : Nat) (f : Nat → Value) (hrow : RowOk C cs.length b o f)
      (hrel : ∀ j (h : j < cs.length), VRel C cs[j] (f j)) : VRel C (.cptr cs) (.pointer (some ⟨b, o, none⟩))
  | map (id : Nat) (hk : OfKind C id 2) : VRel C (.map id) (.map (some (C.μ id)))
  | iter (id : Nat) (hk : OfKind C id 3) : VRel C (.iter id) (.pointer (some ⟨C.μ id, 0, none⟩))
  | fn (g : Nat) (caps : List AV) (vs : Array Value) (hsz : vs.size = caps.length)
      (hrel : ∀ i (h : i < caps.length), VRel C caps[i] (vs[i]'(hsz ▸ h))) : VRel C (.fn g caps) (.func (.func g) #[] vs)
  | yld (id : Nat) (hk : OfKind C id 4) : VRel C (.yld id) (.func (.yield (C.μ id)) #[] #[])
  | agg (cs : List AV) (vs : Array Value) (hsz : vs.size = cs.length)
      (hrel : ∀ i (h : i < cs.length), VRel C cs[i] (vs[i]'(hsz ▸ h))) : VRel C (.agg cs) (.agg vs)
  | tup (cs : List AV) (vs : Array Value) (hsz : vs.size = cs.length)
      (hrel : ∀ i (h : i < cs.length), VRel C cs[i] (vs[i]'(hsz ▸ h))) : VRel C (.tup cs) (.tuple vs)
  | lit (v : Value) : VRel C (.lit v) v
theorem VRel.oneCell {C : Ctx} {v : AV} {x : Value} (h : VRel C v x) (hc : v.isCell = true) : x.oneCell' = true := by
  cases h <;> first | rfl | exact hc | (simp [AV.isCell] at hc)
def ORel (C : Ctx) (k : Nat) : AObj → Prop
  | .cells vs => ∃ c e, C.w.heap[C.μ k]? = some (.cells c e (0, 0)) ∧ vs.length ≤ c.size ∧ C.S (C.μ k) = 0 ∧
      ∀ i (h : i < vs.length) (h' : i < c.size), VRel C vs[i] c[i] ∧ vs[i].isCell = true
  | .tok e sz len => ∃ c, C.w.heap[C.μ k]? = some (.cells c e (0, 0)) ∧ C.S (C.μ k) = len * sz ∧ len * sz ≤ c.size
  | .map _ es => ∃ mes clock, C.w.heap[C.μ k]? = some (.map mes clock) ∧ C.S (C.μ k) = 0 ∧ mes.size = es.length ∧
      (∀ i (h : i < es.length) (h' : i < mes.size), VRel C es[i].1 mes[i].key ∧ VRel C es[i].2 mes[i].val) ∧
      (∀ e, e ∈ mes → e.born < clock) ∧ mes.toList.Pairwise (fun a b => a.born ≠ b.born)
  | .iter m ver left last => C.S (C.μ k) = 0 ∧ OfKind C m 2 ∧ (∀ e, e ∈ left ∨ last = some e → (∃ x, VRel C e.1 x) ∧ ∃ x, VRel C e.2 x) ∧ (∀ v es, C.H[m]? = some (.map v es) → ver ≤ v) ∧ ∀ es, C.H[m]? = some (.map ver es) → ∃ mes clock seen, C.w.heap[C.μ m]? = some (.map mes clock) ∧
      C.w.heap[C.μ k]? = some (.mapIter (some (C.μ m)) clock seen clock) ∧
      ∃ lft : List MapEntry, lft = mes.toList.filter (fun e => !seen.contains e.born) ∧ lft.length = left.length ∧
        (∀ i (h : i < left.length) (h' : i < lft.length), VRel C left[i].1 lft[i].key ∧ VRel C left[i].2 lft[i].val) ∧
        (∀ kv, last = some kv → ∃ e, e ∈ mes ∧ seen.back? = some e.born ∧ VRel C kv.1 e.key ∧ VRel C kv.2 e.val)
  | .loop slots stt pend ps assign body => ∃ tmps fn dk, C.w.heap[C.μ k]? = some (.loop { state := stt, pending := pend, fn := fn, tmps := tmps, params := ps, assign := assign, body := body, defers := dk }) ∧
      C.S (C.μ k) = 0 ∧ tmps.size = slots.length ∧ ∀ i (h : i < slots.length) (h' : i < tmps.size), VRel C slots[i] tmps[i]
  | .grow e _ vs => ∃ c, C.w.heap[C.μ k]? = some (.cells c e (0, 0)) ∧ vs.length ≤ c.size ∧ C.S (C.μ k) = 0 ∧
      ∀ i (h : i < vs.length) (h' : i < c.size), VRel C vs[i] c[i] ∧ vs[i].isCell = true
  | .dead => True
def TabOk (C : Ctx) : Prop := tabOn = true → (∃ e fr, C.w.heap[tabB]? = some (.cells tabA e fr)) ∧ ∀ (k : Nat) (o : AObj), C.H[k]? = some o → o.kind ≠ 6 → C.μ k ≠ tabB
structure Good (C : Ctx) : Prop where
  obj : ∀ (k : Nat) (o : AObj), C.H[k]? = some o → ORel C k o
  lt : ∀ (k : Nat) (o : AObj), C.H[k]? = some o → o.kind ≠ 6 → C.μ k < C.w.heap.size
  inj : ∀ (j k : Nat) (o o' : AObj), C.H[j]? = some o → C.H[k]? = some o' → o.kind ≠ 6 → o'.kind ≠ 6 → C.μ j = C.μ k → j = k
  fresh : ∀ b, C.w.heap.size ≤ b → C.S b = 0
  tab : TabOk C
structure Ext (C C' : Ctx) : Prop where
  os : C'.w.os = C.w.os
  tape : C'.w.tape = C.w.tape
  output : C'.w.output = C.w.output
  drawn : C.w.drawn ≤ C'.w.drawn
  size : C.w.heap.size ≤ C'.w.heap.size
  up : ∀ b, C.S b ≤ C'.S b
  cell : ∀ b o, o < C.S b → C'.w.cell? ⟨b, o, none⟩ = C.w.cell? ⟨b, o, none⟩
  frame : ∀ b, b < C.w.heap.size → (∀ (k : Nat) (o : AObj), C.H[k]? = some o → o.kind ≠ 6 → C.μ k ≠ b) → C'.w.heap[b]? = C.w.heap[b]?
  prov : ∀ (k : Nat) (o : AObj), C'.H[k]? = some o → o.kind ≠ 6 → C.w.heap.size ≤ C'.μ k ∨ ∃ j : Nat, ∃ o' : AObj, C.H[j]? = some o' ∧ o'.kind ≠ 6 ∧ C.μ j = C'.μ k
  kind : ∀ (k : Nat) (o : AObj), C.H[k]? = some o → ∃ o' : AObj, C'.H[k]? = some o' ∧ (o.kind ≠ 6 → o'.kind = o.kind)
  stay : ∀ (k : Nat) (o : AObj), C.H[k]? = some o → o.kind ≠ 1 → o.kind ≠ 6 → C'.μ k = C.μ k
  tok : ∀ k e sz len, C.H[k]? = some (.tok e sz len) → ∃ len', C'.H[k]? = some (.tok e sz len') ∧ len ≤ len' ∧
    (len' = len → C'.μ k = C.μ k ∧ ∀ cur, C.w.heap[C.μ k]? = some (.cells cur e (0, 0)) → ∃ cur', C'.w.heap[C.μ k]? = some (.cells cur' e (0, 0)) ∧ cur'.size = cur.size)
  map : ∀ k ver es, C.H[k]? = some (.map ver es) → ∃ ver' es', C'.H[k]? = some (.map ver' es') ∧ ver ≤ ver' ∧
    (ver' = ver → es' = es ∧ C'.w.heap[C.μ k]? = C.w.heap[C.μ k]?)
  grow : ∀ k e sz vs, C.H[k]? = some (.grow e sz vs) → ∃ vs', C'.H[k]? = some (.grow e sz vs') ∧ vs.length ≤ vs'.length ∧
    (vs'.length = vs.length → C'.μ k = C.μ k ∧ ∀ cur, C.w.heap[C.μ k]? = some (.cells cur e (0, 0)) → ∃ cur', C'.w.heap[C.μ k]? = some (.cells cur' e (0, 0)) ∧ cur'.size = cur.size)
theorem Ext.refl (C : Ctx) : Ext C C :=
  ⟨rfl, rfl, rfl, Nat.le_refl _, Nat.le_refl _, fun _ => Nat.le_refl _, fun _ _ _ => rfl, fun _ _ _ => rfl, fun k o h hd => .inr ⟨k, o, h, hd, rfl⟩,
   fun k o h => ⟨o, h, fun _ => rfl⟩, fun _ _ _ _ _ => rfl, fun k e sz len h => ⟨len, h, Nat.le_refl _, fun _ => ⟨rfl, fun cur hc => ⟨cur, hc, rfl⟩⟩⟩, fun k ver es h => ⟨ver, es, h, Nat.le_refl _, fun _ => ⟨rfl, rfl⟩⟩, fun k e sz vs h => ⟨vs, h, Nat.le_refl _, fun _ => ⟨rfl, fun cur hc => ⟨cur, hc, rfl⟩⟩⟩⟩
theorem Ext.ofKind {C C' : Ctx} (h : Ext C C') {k kd : Nat} (hd : kd ≠ 6) (hk : OfKind C k kd) : OfKind C' k kd := by
  obtain ⟨o, ho, rfl⟩ := hk
  obtain ⟨o', ho', hk'⟩ := h.kind k o ho
  exact ⟨o', ho', hk' hd⟩
theorem Ext.mu {C C' : Ctx} (h : Ext C C') {k kd : Nat} (h1 : kd ≠ 1) (h6 : kd ≠ 6) (hk : OfKind C k kd) : C'.μ k = C.μ k := by
  obtain ⟨o, ho, rfl⟩ := hk
  exact h.stay k o ho h1 h6
theorem Ext.trans {A B C : Ctx} (h : Ext A B) (k : Ext B C) : Ext A C where
  os := k.os.trans h.os
  tape := k.tape.trans h.tape
  output := k.output.trans h.output
  drawn := Nat.le_trans h.drawn k.drawn
  size := Nat.le_trans h.size k.size
  up b := Nat.le_trans (h.up b) (k.up b)
  cell b o ho := (k.cell b o (Nat.lt_of_lt_of_le ho (h.up b))).trans (h.cell b o ho)
  frame b hb hno := by
    refine (k.frame b (Nat.lt_of_lt_of_le hb h.size) ?_).trans (h.frame b hb hno)
    intro j o hj hd e
    rcases h.prov j o hj hd with hp | ⟨i, o', hi, hd', he⟩
    · omega
    · exact hno i o' hi hd' (he.trans e)
  prov j o hj hd := by
    rcases k.prov j o hj hd with hp | ⟨i, o', hi, hd', he⟩
    · exact .inl (Nat.le_trans h.size hp)
    · rcases h.prov i o' hi hd' with hp | ⟨i2, o2, hi2, hd2, he2⟩
      · exact .inl (by omega)
      · exact .inr ⟨i2, o2, hi2, hd2, he2.trans he⟩
  kind j o hj := by
    obtain ⟨o', ho', hk'⟩ := h.kind j o hj
    obtain ⟨o'', ho'', hk''⟩ := k.kind j o' ho'
    refine ⟨o'', ho'', fun hd => ?_⟩
    have := hk' hd
    exact (hk'' (by omega)).trans this
  stay j o hj h1 h6 := by
    obtain ⟨o', ho', hk'⟩ := h.kind j o hj
    have e := hk' h6
    exact (k.stay j o' ho' (by omega) (by omega)).trans (h.stay j o hj h1 h6)
  tok j e sz len hj := by
    obtain ⟨l1, h1, hle, he⟩ := h.tok j e sz len hj
    obtain ⟨l2, h2, hle2, he2⟩ := k.tok j e sz l1 h1
    refine ⟨l2, h2, Nat.le_trans hle hle2, fun heq => ?_⟩
    have e1 : l1 = len := by omega
    have e2 : l2 = l1 := by omega
    obtain ⟨m1, c1⟩ := he e1
    obtain ⟨m2, c2⟩ := he2 e2
    refine ⟨m2.trans m1, fun cur hc => ?_⟩
    obtain ⟨cur1, hc1, hs1⟩ := c1 cur hc
    rw [← m1] at hc1
    obtain ⟨cur2, hc2, hs2⟩ := c2 cur1 hc1
    rw [m1] at hc2
    exact ⟨cur2, hc2, hs2.trans hs1⟩
  map j ver es hj := by
    obtain ⟨v1, s1, h1, hle, he⟩ := h.map j ver es hj
    obtain ⟨v2, s2, h2, hle2, he2⟩ := k.map j v1 s1 h1
    refine ⟨v2, s2, h2, Nat.le_trans hle hle2, fun heq => ?_⟩
    obtain ⟨e1, b1⟩ := he (by omega)
    obtain ⟨e2, b2⟩ := he2 (by omega)
    rw [h.stay j _ hj (by simp [AObj.kind]) (by simp [AObj.kind])] at b2
    exact ⟨e2.trans e1, b2.trans b1⟩
  grow j e sz vs hj := by
    obtain ⟨l1, h1, hle, he⟩ := h.grow j e sz vs hj
    obtain ⟨l2, h2, hle2, he2⟩ := k.grow j e sz l1 h1
    refine ⟨l2, h2, Nat.le_trans hle hle2, fun heq => ?_⟩
    have e1 : l1.length = vs.length := by omega
    have e2 : l2.length = l1.length := by omega
    obtain ⟨m1, c1⟩ := he e1
    obtain ⟨m2, c2⟩ := he2 e2
    refine ⟨m2.trans m1, fun cur hc => ?_⟩
    obtain ⟨cur1, hc1, hs1⟩ := c1 cur hc
    rw [← m1] at hc1
    obtain ⟨cur2, hc2, hs2⟩ := c2 cur1 hc1
    rw [m1] at hc2
    exact ⟨cur2, hc2, hs2.trans hs1⟩
theorem TabOk.ext {C C' : Ctx} (h : TabOk C) (he : Ext C C') : TabOk C' := fun ht => by
  obtain ⟨⟨e, fr, h1⟩, h2⟩ := h ht
  have hlt : tabB < C.w.heap.size := (Array.getElem?_eq_some_iff.1 h1).1
  refine ⟨⟨e, fr, by rw [he.frame tabB hlt h2]; exact h1⟩, fun k o hk ho heq => ?_⟩
  rcases he.prov k o hk ho with hp | ⟨j, o', hj, ho', hm⟩
  · omega
  · exact h2 j o' hj ho' (hm.trans heq)
theorem GrOk.ext {C C' : Ctx} {k n c : Nat} {a : Option Addr} (h : GrOk C k n a c) (he : Ext C C') : GrOk C' k n a c := by
  obtain ⟨e, sz, vs, hk, hle, hpos, hr⟩ := h
  obtain ⟨vs', hk', hle', hr'⟩ := he.grow k e sz vs hk
  refine ⟨e, sz, vs', hk', by omega, hpos, fun heq => ?_⟩
  obtain ⟨cur, ha, hh, hc, hn, hs⟩ := hr (by omega)
  obtain ⟨hm, hcur⟩ := hr' (by omega)
  obtain ⟨cur', hc', hs'⟩ := hcur cur hh
  exact ⟨cur', by rw [hm]; exact ha, by rw [hm]; exact hc', hc, hn, hs'.trans hs⟩
theorem GpOk.ext {C C' : Ctx} {k n off : Nat} {a : Option Addr} (h : GpOk C k n off a) (he : Ext C C') : GpOk C' k n off a := by
  obtain ⟨e, sz, vs, hk, hle, hr⟩ := h
  obtain ⟨vs', hk', hle', hr'⟩ := he.grow k e sz vs hk
  refine ⟨e, sz, vs', hk', by omega, fun heq => ?_⟩
  rw [(hr' (by omega)).1]
  exact hr (by omega)
theorem RowOk.ext {C C' : Ctx} {n b o : Nat} {f : Nat → Value} (h : RowOk C n b o f) (he : Ext C C') : RowOk C' n b o f := fun j hj =>
  ⟨Nat.lt_of_lt_of_le (h j hj).1 (he.up b), (he.cell b _ (h j hj).1).trans (h j hj).2⟩
theorem TokOk.ext {C C' : Ctx} {t : Tok} {n c : Nat} {a : Option Addr} (h : TokOk C t n a c) (he : Ext C C') : TokOk C' t n a c := by
  cases t with
  | none => trivial
  | zero => exact h
  | own k =>
    obtain ⟨e, sz, len, hk, hle, hr⟩ := h
    obtain ⟨len', hk', hle', hr'⟩ := he.tok k e sz len hk
    refine ⟨e, sz, len', hk', by omega, fun heq => ?_⟩
    have e1 : n = len := by omega
    have e2 : len' = len := by omega
    obtain ⟨cur, ha, hh, hc, hs⟩ := hr e1
    obtain ⟨hm, hcur⟩ := hr' e2
    obtain ⟨cur', hc', hs'⟩ := hcur cur hh
    exact ⟨cur', by rw [hm]; exact ha, by rw [hm]; exact hc', hc, hs'.trans hs⟩
theorem VRel.ext {C C' : Ctx} (he : Ext C C') {v : AV} {x : Value} (h : VRel C v x) : VRel C' v x := by
  induction h with
  | junk v => exact .junk v
  | bool b => exact .bool b
  | int k n => exact .int k n
  | str s => exact .str s
  | sl t xs a n c f hn hc hrow hrel htok ih =>
    exact .sl t xs a n c f hn hc (fun hne => let ⟨b, o, ha, hr⟩ := hrow hne; ⟨b, o, ha, hr.ext he⟩) ih (htok.ext he)
  | arr id off len c hk hc => rw [← he.mu (by decide) (by decide) hk]; exact .arr id off len c (he.ofKind (by decide) hk) hc
  | gr id n a c hg => exact .gr id n a c (hg.ext he)
  | gptr id n off a hg => exact .gptr id n off a (hg.ext he)
  | ptr id off hk => rw [← he.mu (by decide) (by decide) hk]; exact .ptr id off (he.ofKind (by decide) hk)
  | cptr cs b o f hrow hrel ih => exact .cptr cs b o f (hrow.ext he) ih
  | map id hk => rw [← he.mu (by decide) (by decide) hk]; exact .map id (he.ofKind (by decide) hk)
  | iter id hk => rw [← he.mu (by decide) (by decide) hk]; exact .iter id (he.ofKind (by decide) hk)
  | fn g caps vs hsz hrel ih => exact .fn g caps vs hsz ih
  | yld id hk => rw [← he.mu (by decide) (by decide) hk]; exact .yld id (he.ofKind (by decide) hk)
  | agg cs vs hsz hrel ih => exact .agg cs vs hsz ih
  | tup cs vs hsz hrel ih => exact .tup cs vs hsz ih
  | lit v => exact .lit v
theorem ORel.ext {C C' : Ctx} (he : Ext C C') {k : Nat} {o : AObj} (hmu : C'.μ k = C.μ k) (hblk : C'.w.heap[C.μ k]? = C.w.heap[C.μ k]?) (hS : C'.S (C.μ k) = C.S (C.μ k))
    (h : ORel C k o) : ORel C' k o := by
  cases o with
  | cells vs =>
    obtain ⟨c, e, h1, h2, h3, h4⟩ := h
    exact ⟨c, e, by rw [hmu, hblk]; exact h1, h2, by rw [hmu, hS]; exact h3, fun i hi hi' => ⟨(h4 i hi hi').1.ext he, (h4 i hi hi').2⟩⟩
  | tok e sz len =>
    obtain ⟨c, h1, h2, h3⟩ := h
    exact ⟨c, by rw [hmu, hblk]; exact h1, by rw [hmu, hS]; exact h2, h3⟩
  | map ver es =>
    obtain ⟨mes, clock, h1, h2, h3, h4, h5⟩ := h
    exact ⟨mes, clock, by rw [hmu, hblk]; exact h1, by rw [hmu, hS]; exact h2, h3, fun i hi hi' => ⟨(h4 i hi hi').1.ext he, (h4 i hi hi').2.ext he⟩, h5⟩
  | iter m ver left last =>
    obtain ⟨hS0, hm, hsc, hle0, h⟩ := h
    have hm' := hm
    obtain ⟨o, ho, hk⟩ := hm
    cases o <;> simp [AObj.kind] at hk
    rename_i v0 es0
    obtain ⟨v1, es1, h1, hle, h2⟩ := he.map m _ _ ho
    have hl0 := hle0 _ _ ho
    refine ⟨by rw [hmu, hS]; exact hS0, he.ofKind (by decide) hm', fun e h => ⟨let ⟨x, hx⟩ := (hsc e h).1; ⟨x, hx.ext he⟩, let ⟨x, hx⟩ := (hsc e h).2; ⟨x, hx.ext he⟩⟩, fun v es hv => (by rw [h1] at hv; injection hv with hv; injection hv with hv; omega), fun es hes => ?_⟩
    rw [hes] at h1
    injection h1 with h1
    injection h1 with h1 h1'
    have hmm : C'.μ m = C.μ m := he.stay m _ ho (by simp [AObj.kind]) (by simp [AObj.kind])
    subst h1
    by_cases hv : ver = v0
    · subst hv
      obtain ⟨_, hb⟩ := h2 rfl
      obtain ⟨mes, clock, seen, g1, g2, lft, g3, g4, g5, g6⟩ := h es0 ho
      refine ⟨mes, clock, seen, by rw [hmm, hb]; exact g1, by rw [hmu, hmm, hblk]; exact g2, lft, g3, g4, fun i hi hi' => ⟨(g5 i hi hi').1.ext he, (g5 i hi hi').2.ext he⟩, fun kv hkv => ?_⟩
      obtain ⟨e, e1, e2, e3, e4⟩ := g6 kv hkv
      exact ⟨e, e1, e2, e3.ext he, e4.ext he⟩
    · omega
  | loop slots stt pend ps assign body =>
    obtain ⟨tmps, fn, dk, h1, h2, h3, h4⟩ := h
    exact ⟨tmps, fn, dk, by rw [hmu, hblk]; exact h1, by rw [hmu, hS]; exact h2, h3, fun i hi hi' => (h4 i hi hi').ext he⟩
  | grow e sz vs =>
    obtain ⟨c, h1, h2, h3, h4⟩ := h
    exact ⟨c, by rw [hmu, hblk]; exact h1, h2, by rw [hmu, hS]; exact h3, fun i hi hi' => ⟨(h4 i hi hi').1.ext he, (h4 i hi hi').2⟩⟩
  | dead => trivial
end Ab
namespace Ab
open Go
def F0 (ro : Option Nat) : Fence := { Fence.wide with round := ro }
structure ASt where
  slots : List AV
  heap : List AObj
structure SRel (C : Ctx) (st : ASt) (a : Act) : Prop where
  size : a.tmps.size = st.slots.length
  slot : ∀ i (h : i < st.slots.length) (h' : i < a.tmps.size), VRel C st.slots[i] a.tmps[i]
def DefOk (C0 C : Ctx) (a : Act) : Prop := ∃ D : List Nat, a.defers = D.map (fun d => { target := .collected d, args := #[] }) ∧ D.Nodup ∧
  ∀ d, d ∈ D → C0.w.heap.size ≤ d ∧ d < C.w.heap.size ∧ C.w.heap[d]? = some (.deferred (some [])) ∧ ∀ (k : Nat) (o : AObj), C.H[k]? = some o → o.kind ≠ 6 → C.μ k ≠ d
theorem DefOk.nil {C0 C : Ctx} {a : Act} (h : a.defers = []) : DefOk C0 C a := ⟨[], by simp [h], by simp, fun d hd => by cases hd⟩
theorem DefOk.ext {C0 C C' : Ctx} {a : Act} (h : DefOk C0 C a) (he : Ext C C') : DefOk C0 C' a := by
  obtain ⟨D, h1, h2, h3⟩ := h
  refine ⟨D, h1, h2, fun d hd => ?_⟩
  obtain ⟨a1, a2, a3, a4⟩ := h3 d hd
  refine ⟨a1, Nat.lt_of_lt_of_le a2 he.size, by rw [he.frame d a2 a4]; exact a3, fun k o hk ho e => ?_⟩
  rcases he.prov k o hk ho with h | ⟨j, o', hj, ho', e'⟩
  · omega
  · exact a4 j o' hj ho' (e'.trans e)
theorem DefOk.act {C0 C : Ctx} {a a' : Act} (h : DefOk C0 C a) (he : a'.defers = a.defers) : DefOk C0 C a' := by
  obtain ⟨D, h1, h2⟩ := h; exact ⟨D, he.trans h1, h2⟩
structure SD (C0 C : Ctx) (st : ASt) (a : Act) : Prop extends SRel C st a where
  defok : DefOk C0 C a
def post (C0 : Ctx) (Q : Exit → ASt → Prop) : Exit → Act → World → Prop := fun e a' w' =>
  ∃ C' st', C'.w = w' ∧ Good C' ∧ C'.H = st'.heap ∧ SD C0 C' st' a' ∧ Ext C0 C' ∧ Q e st'
def AW (P : Program) (ro : Option Nat) (H0 : List AObj) (c : Code) (Q : Exit → ASt → Prop) (st : ASt) : Prop :=
  ∀ C0 C a, C0.H = H0 → Good C0 → Ext C0 C → Good C → C.H = st.heap → SD C0 C st a → c.wpIn (F0 ro) 0 P (post C0 Q) a C.w
def thenK (K : ASt → Prop) (Q : Exit → ASt → Prop) : Exit → ASt → Prop
  | .normal, st => K st
  | e, st => Q e st
def blockK (id : Nat) (Q : Exit → ASt → Prop) : Exit → ASt → Prop
  | .exit id', st => if id' = id then Q .normal st else Q (.exit id') st
  | e, st => Q e st
variable {P : Program} {ro : Option Nat} {H0 : List AObj} {Q : Exit → ASt → Prop} {st : ASt}
theorem post_at {C0 C : Ctx} {e : Exit} {a : Act} (he : Ext C0 C) (hg : Good C) (hH : C.H = st.heap) (hs : SD C0 C st a) (h : Q e st) : post C0 Q e a C.w :=
  ⟨C, st, rfl, hg, hH, hs, he, h⟩
theorem AW_mono {c : Code} {Q' : Exit → ASt → Prop} (h : AW P ro H0 c Q st) (hq : ∀ e st, Q e st → Q' e st) : AW P ro H0 c Q' st := fun C0 C a h0 hg0 hx hg hH hs =>
  wpIn_mono (h C0 C a h0 hg0 hx hg hH hs) fun _ _ _ ⟨C', st', hw, hg', hH', hs', he, q⟩ => ⟨C', st', hw, hg', hH', hs', he, hq _ _ q⟩
theorem AW_skip (h : Q .normal st) : AW P ro H0 .skip Q st := fun _ _ _ _ _ hx hg hH hs => wpIn_skip (post_at hx hg hH hs h)
theorem AW_ret (h : Q .ret st) : AW P ro H0 .ret Q st := fun _ _ _ _ _ hx hg hH hs => wpIn_ret (post_at hx hg hH hs h)
theorem AW_exit {id : Nat} (h : Q (.exit id) st) : AW P ro H0 (.exit id) Q st := fun _ _ _ _ _ hx hg hH hs => wpIn_exit (post_at hx hg hH hs h)
theorem AW_seq {x y : Code} (h : AW P ro H0 x (thenK (AW P ro H0 y Q) Q) st) : AW P ro H0 (.seq x y) Q st := fun C0 C a h0 hg0 hx hg hH hs => by
  refine wpIn_seq (wpIn_mono (h C0 C a h0 hg0 hx hg hH hs) ?_)
  rintro e a' w' ⟨C', st', rfl, hg', hH', hs', he, q⟩
  cases e with
  | normal => exact q C0 C' a' h0 hg0 he hg' hH' hs'
  | _ => exact ⟨C', st', rfl, hg', hH', hs', he, q⟩
theorem AW_block {id : Nat} {c : Code} (h : AW P ro H0 c (blockK id Q) st) : AW P ro H0 (.block id c) Q st := fun C0 C a h0 hg0 hx hg hH hs => by
  refine wpIn_block (wpIn_mono (h C0 C a h0 hg0 hx hg hH hs) ?_)
  rintro e a' w' ⟨C', st', rfl, hg', hH', hs', he, q⟩
  cases e with
  | exit id' =>
    by_cases hid : id' = id
    · subst hid
      have q' : Q .normal st' := by have := q; unfold blockK at this; simpa using this
      show (if id' = id' then _ else _)
      rw [if_pos rfl]
      exact ⟨C', st', rfl, hg', hH', hs', he, q'⟩
    · have q' : Q (.exit id') st' := by have := q; unfold blockK at this; simpa [hid] using this
      show (if id' = id then _ else _)
      rw [if_neg hid]
      exact ⟨C', st', rfl, hg', hH', hs', he, q'⟩
  | _ => exact ⟨C', st', rfl, hg', hH', hs', he, q⟩
theorem VRel.nilslice (C : Ctx) : VRel C (.sl .zero []) (.slice none 0 0) :=
  .sl .zero [] none 0 0 (fun _ => undef) rfl (Nat.le_refl _) (fun h => absurd rfl h) (fun j h => absurd h (by simp [flat])) ⟨rfl, rfl⟩
def ofVal0 : Value → AV
  | .bool b => .bool b
  | .int k n => .int k n
  | .string s => .str s.data.toList
  | .slice none 0 0 => .sl .zero []
  | v => .lit v
def ofVals : List Value → List AV
  | [] => []
  | v :: r => ofVal0 v :: ofVals r
def ofVal : Value → AV
  | .bool b => .bool b
  | .int k n => .int k n
  | .string s => .str s.data.toList
  | .slice none 0 0 => .sl .zero []
  | .agg vs => .agg (ofVals vs.toList)
  | v => .lit v
theorem ofVals_map : ∀ l : List Value, ofVals l = l.map ofVal0
  | [] => rfl
  | v :: r => by rw [ofVals, ofVals_map r]; rfl
theorem ofVals_arr (l : List Value) : ofVals l.toArray.toList = ofVals l := (rfl)
theorem VRel.ofVal0 (C : Ctx) (v : Value) : VRel C (ofVal0 v) v := by
  unfold Ab.ofVal0
  split
  · exact .bool _
  · exact .int _ _
  · rename_i s; have := VRel.str (C := C) s.data.toList; simpa using this
  · exact VRel.nilslice C
  · exact .lit _
theorem VRel.ofVal (C : Ctx) (v : Value) : VRel C (ofVal v) v := by
  unfold Ab.ofVal
  split
  · exact .bool _
  · exact .int _ _
  · rename_i s; have := VRel.str (C := C) s.data.toList; simpa using this
  · exact VRel.nilslice C
  · rename_i vs
    rw [ofVals_map]
    refine .agg _ vs (by simp) (fun i hi => ?_)
    simp only [List.getElem_map, Array.getElem_toList]
    exact VRel.ofVal0 C _
  · exact .lit _
def ASt.opd (st : ASt) : Operand → AV
  | .tmp t => st.slots.getD t (.lit undef)
  | .const v => ofVal v
  | .global g => .lit (.pointer (some ⟨g, 0, none⟩))
  | .func f => .fn f []
theorem SRel.opd {C : Ctx} {a : Act} (h : SRel C st a) (x : Operand) : VRel C (st.opd x) (a.eval x) := by
  cases x with
  | tmp t =>
    by_cases ht : t < st.slots.length
    · have h' : t < a.tmps.size := by rw [h.size]; exact ht
      have := h.slot t ht h'
      simpa [ASt.opd, Act.eval, List.getD, ht, h'] using this
    · have h' : ¬ t < a.tmps.size := by rw [h.size]; exact ht
      have e1 : st.slots.getD t (.lit undef) = .lit undef := by simp [List.getD, List.getElem?_eq_none (Nat.le_of_not_lt ht)]
      have e2 : a.tmps.getD t undef = undef := by simp [Array.getD, h']
      simp only [ASt.opd, Act.eval, e1, e2]
      exact .lit _
  | const v => exact VRel.ofVal C v
  | global g => exact .lit _
  | func f => exact .fn f [] #[] rfl (fun i h => absurd h (by simp))
theorem VRel.bool_inv {C : Ctx} {b : Bool} {x : Value} (h : VRel C (.bool b) x) : x = .bool b := by cases h; rfl
theorem VRel.lit_inv {C : Ctx} {v x : Value} (h : VRel C (.lit v) x) : x = v := by cases h; rfl
theorem VRel.int_inv {C : Ctx} {k : IntKind} {n : Int} {x : Value} (h : VRel C (.int k n) x) : x = .int k n := by cases h; rfl
theorem VRel.str_inv {C : Ctx} {s : List UInt8} {x : Value} (h : VRel C (.str s) x) : x = .string ⟨s.toArray⟩ := by cases h; rfl
theorem AW_cond {c : Operand} {x y : Code} {b : Bool} (hc : st.opd c = .bool b) (ht : b = true → AW P ro H0 x Q st) (hf : b = false → AW P ro H0 y Q st) : AW P ro H0 (.cond c x y) Q st := fun C0 C a h0 hg0 hx hg hH hs => by
  have hv := hs.opd c
  rw [hc] at hv
  refine wpIn_cond (t := b) hv.bool_inv ?_
  cases b with
  | true => exact ht rfl C0 C a h0 hg0 hx hg hH hs
  | false => exact hf rfl C0 C a h0 hg0 hx hg hH hs
theorem AW_loop {α : Type} {c : Code} (I : α → ASt → Prop) (μ : α → Nat) (x0 : α) (h0 : I x0 st)
    (round : ∀ x st, I x st → AW P ro H0 c (thenK (fun st' => ∃ y, I y st' ∧ μ y < μ x) Q) st) : AW P ro H0 (.loop c) Q st := fun C0 C a hC0 hg0 hx hg hH hs => by
  intro b k cs hro hb hr
  have key : ∀ j x C st a, μ x = j → I x st → Ext C0 C → Good C → C.H = st.heap → SD C0 C st a →
      ∃ e a' w', post C0 Q e a' w' ∧ ArrivesIn (Machine.fenced P (F0 ro)) P (lone (b.atR a (.code c :: .inLoop c :: k)) cs C.w) b k cs e a' w' := by
    intro j
    induction j using Nat.strongRecOn with
    | _ j ih =>
      intro x C st a hn hI hx hg hH hs
      obtain ⟨e, a₁, w₁, ⟨C1, st1, rfl, hg1, hH1, hs1, he1, hq⟩, harr⟩ := round x st hI C0 C a hC0 hg0 hx hg hH hs b (.inLoop c :: k) cs hro hb hr
      cases e with
      | normal =>
        obtain ⟨y, hI1, hlt⟩ := hq
        obtain ⟨e₂, a₂, w₂, hq₂, harr₂⟩ := ih (μ y) (hn ▸ hlt) y C1 st1 a₁ rfl hI1 he1 hg1 hH1 hs1
        exact ⟨e₂, a₂, w₂, hq₂, .of_steps (StepsIn.trans harr (.one (fenced_calm hb hr rfl) stepR_inLoop)) harr₂⟩
      | exit id => exact ⟨_, a₁, _, ⟨C1, st1, rfl, hg1, hH1, hs1, he1, hq⟩, .pass (x := .inLoop c) rfl (fun _ _ => .inl (by simp)) harr⟩
      | goto l => exact ⟨_, a₁, _, ⟨C1, st1, rfl, hg1, hH1, hs1, he1, hq⟩, .pass (x := .inLoop c) rfl (fun _ _ => .inl (by simp)) harr⟩
      | ret => exact ⟨_, a₁, _, ⟨C1, st1, rfl, hg1, hH1, hs1, he1, hq⟩, .pass (x := .inLoop c) rfl (fun _ _ => .inl (by simp)) harr⟩
      | panic ch => exact ⟨_, a₁, _, ⟨C1, st1, rfl, hg1, hH1, hs1, he1, hq⟩, .pass (x := .inLoop c) rfl (fun _ _ => .inl (by simp)) harr⟩
      | outgrown => exact ⟨_, a₁, _, ⟨C1, st1, rfl, hg1, hH1, hs1, he1, hq⟩, .pass (x := .inLoop c) rfl (fun _ _ => .inl (by simp)) harr⟩
  obtain ⟨e, a', w', hq, harr⟩ := key _ x0 C st a rfl h0 hx hg hH hs
  exact ⟨e, a', w', hq, .of_steps (.one (fenced_calm hb hr rfl) stepR_loop) harr⟩
def ASt.put (st : ASt) (dst : Option Nat) (v : AV) : ASt :=
  match dst with
  | some d => { st with slots := st.slots.set d v }
  | none => st
theorem SRel.put {C : Ctx} {a : Act} (h : SRel C st a) (dst : Option Nat) {v : AV} {x : Value} (hv : VRel C v x) : SRel C (st.put dst v) (a.put dst x) := by
  cases dst with
  | none => exact h
  | some d =>
    refine ⟨by simp [ASt.put, Act.put, h.size], ?_⟩
    intro i hi hi'
    simp only [ASt.put, Act.put] at hi hi' ⊢
    rw [List.getElem_set, Array.getElem_setIfInBounds]
    by_cases e : d = i
    · simp [e]; exact hv
    · simp [e]; exact h.slot i (by simpa using hi) (by simpa using hi')
theorem SRel.ext {C C' : Ctx} {a : Act} (h : SRel C st a) (he : Ext C C') {heap' : List AObj} : SRel C' { st with heap := heap' } a :=
  ⟨h.size, fun i hi hi' => (h.slot i hi hi').ext he⟩
def AOp (P : Program) (ro : Option Nat) (o : Oper) (K : AV → List AObj → Prop) (st : ASt) : Prop :=
  ∀ C a, Good C → C.H = st.heap → SRel C st a → ∀ (next : Act → World → Prop) (Qc : Exit → Act → World → Prop),
    (∀ C' x v, Good C' → Ext C C' → VRel C' v x → K v C'.H → next (a.put o.dst x) C'.w) → o.wpIn (F0 ro) 0 P a C.w next Qc
def AWant (ops : Array Oper) (o : Oper) (st : ASt) : Option Bool :=
  match o.guard with
  | none => some true
  | some (j, want) => match (ops[j]?).bind (·.dst) with
    | some d => match st.slots.getD d (.lit undef) with
      | .bool b => some (b == want)
      | .lit (.tuple _) => some false
      | _ => none
    | none => none
def AOps (P : Program) (ro : Option Nat) (H0 : List AObj) (ops : Array Oper) (Q : Exit → ASt → Prop) (l : List Oper) (st : ASt) : Prop :=
  ∀ C0 C a, C0.H = H0 → Good C0 → Ext C0 C → Good C → C.H = st.heap → SD C0 C st a → wpListIn (F0 ro) 0 P ops (post C0 Q) l a C.w
theorem AOps_nil {ops : Array Oper} (h : Q .normal st) : AOps P ro H0 ops Q [] st := fun _ _ _ _ _ hx hg hH hs => post_at hx hg hH hs h
theorem AWant_spec {C : Ctx} {a : Act} {ops : Array Oper} {o : Oper} {b : Bool} (hs : SRel C st a) (h : AWant ops o st = some b) : Region.wanted o (yielded ops a.tmps) = b := by
  unfold AWant at h
  unfold Region.wanted
  cases hg : o.guard with
  | none => rw [hg] at h; simpa using h
  | some gw =>
    obtain ⟨j, want⟩ := gw
    rw [hg] at h
    simp only at h ⊢
    cases hd : (ops[j]?).bind (·.dst) with
    | none => rw [hd] at h; simp at h
    | some d =>
      rw [hd] at h
      simp only at h
      have hv := hs.opd (.tmp d)
      simp only [ASt.opd, Act.eval] at hv
      split at h
      · rename_i b' hb'
        rw [hb'] at hv
        have hx := hv.bool_inv
        have hlt : d < a.tmps.size := by
          rcases Nat.lt_or_ge d a.tmps.size with h' | h'
          · exact h'
          · simp [Array.getD, Nat.not_lt.2 h', undef] at hx
        have hx' : a.tmps[d]? = some (.bool b') := by simpa [hlt] using hx
        have : yielded ops a.tmps j = some b' := by unfold yielded; simp [hd, hx']
        have h2 : (b' == want) = b := by simpa using h
        rw [this, ← h2]
        cases b' <;> cases want <;> rfl
      · rename_i vs hb'
        rw [hb'] at hv
        have hx := hv.lit_inv
        have : yielded ops a.tmps j = none := by
          unfold yielded
          simp only [hd, Option.bind_some]
          by_cases hlt : d < a.tmps.size
          · have hx' : a.tmps[d]? = some (.tuple vs) := by simpa [hlt] using hx
            rw [hx']
          · rw [Array.getElem?_eq_none (Nat.le_of_not_lt hlt)]
        rw [this]
        injection h
      · cases h
theorem AOps_cons {ops : Array Oper} {o : Oper} {rest : List Oper} (hw : AWant ops o st = some true)
    (h : AOp P ro o (fun v heap' => AOps P ro H0 ops Q rest (({ st with heap := heap' } : ASt).put o.dst v)) st) : AOps P ro H0 ops Q (o :: rest) st := fun C0 C a h0 hg0 hx hg hH hs => by
  simp only [wpListIn, AWant_spec hs.toSRel hw, if_true]
  refine h C a hg hH hs.toSRel _ _ ?_
  intro C' x v hg' he hv hK
  have hs' : SD C0 C' (({ st with heap := C'.H } : ASt).put o.dst v) (a.put o.dst x) := ⟨(hs.toSRel.ext he).put _ hv, (hs.defok.ext he).act (by cases o.dst <;> rfl)⟩
  have hH' : C'.H = (({ st with heap := C'.H } : ASt).put o.dst v).heap := by cases o.dst <;> rfl
  exact hK C0 C' _ h0 hg0 (hx.trans he) hg' hH' hs'
theorem AOps_skip {ops : Array Oper} {o : Oper} {rest : List Oper} (hw : AWant ops o st = some false)
    (h : AOps P ro H0 ops Q rest (st.put o.dst (.lit undef))) : AOps P ro H0 ops Q (o :: rest) st := fun C0 C a h0 hg0 hx hg hH hs => by
  simp only [wpListIn, AWant_spec hs.toSRel hw, if_false, Bool.false_eq_true]
  exact ⟨fun _ _ => trivial, h C0 C _ h0 hg0 hx hg (by rw [hH]; cases o.dst <;> rfl) ⟨hs.toSRel.put _ (.lit undef), hs.defok.act (by cases o.dst <;> rfl)⟩⟩
theorem AW_region {id : Nat} {ops : Array Oper} (h : AOps P ro H0 ops Q ops.toList st) : AW P ro H0 (.region id ops false) Q st := fun C0 C a h0 hg0 hx hg hH hs =>
  wpIn_region_list (h C0 C a h0 hg0 hx hg hH hs)
theorem AOp_value {o : Oper} {K : AV → List AObj → Prop} (hsem : ∀ ρ, Oper.semAt ro ρ o = execOp ρ o)
    (h : ∀ C a, Good C → C.H = st.heap → SRel C st a → ∃ C' x v, (execOp a.eval o).run P C.w = .ok (.value x) C'.w ∧ Good C' ∧ Ext C C' ∧ VRel C' v x ∧ K v C'.H) : AOp P ro o K st := fun C a hg hH hs next Qc hn => by
  obtain ⟨C', x, v, hr, hg', he, hv, hK⟩ := h C a hg hH hs
  refine ⟨fun _ _ => trivial, ?_⟩
  show o.uponIn (F0 ro) 0 P a next Qc ((o.semAt ro a.eval).run P C.w)
  rw [hsem, hr]
  exact hn C' x v hg' he hv hK
theorem AOp_skipv {o : Oper} {K : AV → List AObj → Prop} (hsem : ∀ ρ, Oper.semAt ro ρ o = execOp ρ o)
    (h : ∀ C a, Good C → C.H = st.heap → SRel C st a → ∃ C', (execOp a.eval o).run P C.w = .ok .skip C'.w ∧ Good C' ∧ Ext C C' ∧ K (.lit undef) C'.H) : AOp P ro o K st := fun C a hg hH hs next Qc hn => by
  obtain ⟨C', hr, hg', he, hK⟩ := h C a hg hH hs
  refine ⟨fun _ _ => trivial, ?_⟩
  show o.uponIn (F0 ro) 0 P a next Qc ((o.semAt ro a.eval).run P C.w)
  rw [hsem, hr]
  exact hn C' undef (.lit undef) hg' he (.lit _) hK
theorem semAt_of {o : Oper} (h : ∀ c, o.op ≠ .defer c) (ro : Option Nat) (ρ : Operand → Value) : Oper.semAt ro ρ o = execOp ρ o := by
  cases ro with
  | none => exact Oper.semAt_none ρ o
  | some l => exact Oper.semAt_some l ρ o h
def ACall (P : Program) (f : Nat) (args : List AV) (H : List AObj) (R : AV → List AObj → Prop) : Prop :=
  ∀ C (vs : Array Value), Good C → C.H = H → vs.size = args.length → (∀ i (h : i < args.length) (h' : i < vs.size), VRel C args[i] vs[i]) →
    Calls P f vs C.w fun e w' => ∃ v r C', e = .returned v ∧ C'.w = w' ∧ Good C' ∧ Ext C C' ∧ VRel C' r v ∧ R r C'.H
theorem ACall.mono {f : Nat} {args : List AV} {H : List AObj} {R R' : AV → List AObj → Prop} (h : ACall P f args H R) (hr : ∀ r H', R r H' → R' r H') : ACall P f args H R' :=
  fun C vs hg hH hsz hv => (h C vs hg hH hsz hv).mono fun _ _ ⟨v, r, C', he, hw, hg', hx, hvr, hR⟩ => ⟨v, r, C', he, hw, hg', hx, hvr, hr _ _ hR⟩
theorem calls_F0 {ro : Option Nat} {n : Nat} {f : Nat} {vs : Array Value} {w : World} {R : Ending → World → Prop} (h : Calls P f vs w R) : CallsIn (F0 ro) n P f vs w R :=
  (callsIn_wide (n := n)).2 h
theorem Good.shut {C : Ctx} (hg : Good C) {d : Nat} (hd : C.w.heap[d]? = some (.deferred (some []))) (hno : ∀ (k : Nat) (o : AObj), C.H[k]? = some o → o.kind ≠ 6 → C.μ k ≠ d)
    {w' : World} (hw : w'.heap = C.w.heap.setIfInBounds d (.deferred none)) (ho : w'.os = C.w.os) (ht : w'.tape = C.w.tape) (hout : w'.output = C.w.output) (hdr : C.w.drawn ≤ w'.drawn) :
    Good { C with w := w' } ∧ (∀ b o, w'.cell? ⟨b, o, none⟩ = C.w.cell? ⟨b, o, none⟩) ∧ (∀ v x, VRel C v x → VRel { C with w := w' } v x) ∧
      ∀ C0, C0.w.heap.size ≤ d → Ext C0 C → Ext C0 { C with w := w' } := by
  have hblk : ∀ b, b ≠ d → w'.heap[b]? = C.w.heap[b]? := fun b hb => by rw [hw, Array.getElem?_setIfInBounds_ne (Ne.symm hb)]
  have hdl := (Array.getElem?_eq_some_iff.1 hd).1
  have hself : w'.heap[d]? = some (.deferred none) := by rw [hw]; simp [hdl]
  have hcell : ∀ b o, w'.cell? ⟨b, o, none⟩ = C.w.cell? ⟨b, o, none⟩ := fun b o => by
    by_cases hb : b = d
    · subst hb; simp [World.cell?, hself, hd]
    · simp [World.cell?, hblk b hb]
  have hv : ∀ v x, VRel C v x → VRel { C with w := w' } v x := fun v x h => by
    induction h with
    | junk v => exact .junk v
    | bool b => exact .bool b
    | int k n => exact .int k n
    | str s => exact .str s
    | sl t xs a n c f hn hc hrow hrel htok ih =>
      refine .sl t xs a n c f hn hc (fun hne => let ⟨b, o, ha, hr⟩ := hrow hne; ⟨b, o, ha, fun j hj => ⟨(hr j hj).1, (hcell _ _).trans (hr j hj).2⟩⟩) ih ?_
      cases t with
      | none => trivial
      | zero => exact htok
      | own k =>
        obtain ⟨e, sz, len, hk, hle, hr⟩ := htok
        refine ⟨e, sz, len, hk, hle, fun heq => ?_⟩
        obtain ⟨cur, h1, h2, h3⟩ := hr heq
        exact ⟨cur, h1, (hblk _ (hno k _ hk (by simp [AObj.kind]))).trans h2, h3⟩
    | arr id off len c hk hc => exact .arr (C := { C with w := w' }) id off len c hk hc
    | gr id n a c hg =>
      obtain ⟨e, sz, vs, hk, h1, h2, h3⟩ := hg
      refine .gr id n a c ⟨e, sz, vs, hk, h1, h2, fun heq => ?_⟩
      obtain ⟨cur, g1, g2, g3⟩ := h3 heq
      exact ⟨cur, g1, (hblk _ (hno id _ hk (by simp [AObj.kind]))).trans g2, g3⟩
    | gptr id n off a hg => exact .gptr (C := { C with w := w' }) id n off a hg
    | ptr id off hk => exact .ptr (C := { C with w := w' }) id off hk
    | cptr cs b o f hrow hrel ih => exact .cptr cs b o f (fun j hj => ⟨(hrow j hj).1, (hcell _ _).trans (hrow j hj).2⟩) ih
    | map id hk => exact .map (C := { C with w := w' }) id hk
    | iter id hk => exact .iter (C := { C with w := w' }) id hk
    | fn g caps vs hsz hrel ih => exact .fn g caps vs hsz ih
    | yld id hk => exact .yld (C := { C with w := w' }) id hk
    | agg cs vs hsz hrel ih => exact .agg cs vs hsz ih
    | tup cs vs hsz hrel ih => exact .tup cs vs hsz ih
    | lit v => exact .lit v
  refine ⟨⟨fun k o h => ?_, fun k o h hk => by show _ < w'.heap.size; rw [hw, Array.size_setIfInBounds]; exact hg.lt k o h hk, hg.inj, fun b hb => hg.fresh b (by have : w'.heap.size ≤ b := hb; rw [hw, Array.size_setIfInBounds] at this; exact this), fun ht => ?_⟩, hcell, hv, fun C0 hle he => ?_⟩
  · have hr := hg.obj k o h
    by_cases hk6 : o.kind = 6
    · cases o <;> first | trivial | (simp [AObj.kind] at hk6)
    have hb := hblk _ (hno k o h hk6)
    cases o with
    | cells vs =>
      obtain ⟨c, e, h1, h2, h3, h4⟩ := hr
      exact ⟨c, e, hb.trans h1, h2, h3, fun i hi hi' => ⟨hv _ _ (h4 i hi hi').1, (h4 i hi hi').2⟩⟩
    | tok e sz len =>
      obtain ⟨c, h1, h2, h3⟩ := hr
      exact ⟨c, hb.trans h1, h2, h3⟩
    | map ver es =>
      obtain ⟨mes, clock, h1, h2, h3, h4, h5⟩ := hr
      exact ⟨mes, clock, hb.trans h1, h2, h3, fun i hi hi' => ⟨hv _ _ (h4 i hi hi').1, hv _ _ (h4 i hi hi').2⟩, h5⟩
    | iter m ver left last =>
      obtain ⟨hS0, hm, hsc, hle0, h'⟩ := hr
      refine ⟨hS0, hm, fun e h => ⟨let ⟨x, hx⟩ := (hsc e h).1; ⟨x, hv _ _ hx⟩, let ⟨x, hx⟩ := (hsc e h).2; ⟨x, hv _ _ hx⟩⟩, hle0, fun es hes => ?_⟩
      obtain ⟨mes, clock, seen, g1, g2, lft, g3, g4, g5, g6⟩ := h' es hes
      refine ⟨mes, clock, seen, (hblk _ (hno m _ hes (by simp [AObj.kind]))).trans g1, hb.trans g2, lft, g3, g4, fun i hi hi' => ⟨hv _ _ (g5 i hi hi').1, hv _ _ (g5 i hi hi').2⟩, fun kv hkv => ?_⟩
      obtain ⟨e, e1, e2, e3, e4⟩ := g6 kv hkv
      exact ⟨e, e1, e2, hv _ _ e3, hv _ _ e4⟩
    | loop slots stt pend ps assign body =>
      obtain ⟨tmps, fn, dk, h1, h2, h3, h4⟩ := hr
      exact ⟨tmps, fn, dk, hb.trans h1, h2, h3, fun i hi hi' => hv _ _ (h4 i hi hi')⟩
    | grow e sz vs =>
      obtain ⟨c, h1, h2, h3, h4⟩ := hr
      exact ⟨c, hb.trans h1, h2, h3, fun i hi hi' => ⟨hv _ _ (h4 i hi hi').1, (h4 i hi hi').2⟩⟩
    | dead => trivial
  · obtain ⟨⟨e, fr, h1⟩, h2⟩ := hg.tab ht
    exact ⟨⟨e, fr, (hblk _ (fun ee => by rw [ee, hd] at h1; cases h1)).trans h1⟩, h2⟩
  · refine ⟨ho.trans he.os, ht.trans he.tape, hout.trans he.output, Nat.le_trans he.drawn hdr, by show _ ≤ w'.heap.size; rw [hw, Array.size_setIfInBounds]; exact he.size, he.up, fun b o h => (hcell b o).trans (he.cell b o h),
      fun b hb h => (hblk b (by omega)).trans (he.frame b hb h), he.prov, he.kind, he.stay, fun k e sz len h => ?_, fun k ver es h => ?_, fun k e sz vs h => ?_⟩
    · obtain ⟨len', h1, h2, h3⟩ := he.tok k e sz len h
      refine ⟨len', h1, h2, fun heq => ⟨(h3 heq).1, fun cur hc => ?_⟩⟩
      obtain ⟨cur', h4, h5⟩ := (h3 heq).2 cur hc
      refine ⟨cur', ?_, h5⟩
      have hne : C0.μ k ≠ d := by rw [← (h3 heq).1]; exact hno k _ h1 (by simp [AObj.kind])
      exact (hblk _ hne).trans h4
    · obtain ⟨v', es', h1, h2, h3⟩ := he.map k ver es h
      refine ⟨v', es', h1, h2, fun heq => ⟨(h3 heq).1, ?_⟩⟩
      have hne : C0.μ k ≠ d := by
        rw [← he.stay k _ h (by simp [AObj.kind]) (by simp [AObj.kind])]; exact hno k _ h1 (by simp [AObj.kind])
      exact (hblk _ hne).trans (h3 heq).2
    · obtain ⟨vs', h1, h2, h3⟩ := he.grow k e sz vs h
      refine ⟨vs', h1, h2, fun heq => ⟨(h3 heq).1, fun cur hc => ?_⟩⟩
      obtain ⟨cur', h4, h5⟩ := (h3 heq).2 cur hc
      refine ⟨cur', ?_, h5⟩
      have hne : C0.μ k ≠ d := by rw [← (h3 heq).1]; exact hno k _ h1 (by simp [AObj.kind])
      exact (hblk _ hne).trans h4
theorem leaves_marks {C0 : Ctx} {fn : Func} {tmps : Array Value} {R : Ending → World → Prop} : ∀ (D : List Nat) (C : Ctx), Good C → Ext C0 C → D.Nodup →
    (∀ d, d ∈ D → C0.w.heap.size ≤ d ∧ d < C.w.heap.size ∧ C.w.heap[d]? = some (.deferred (some [])) ∧ ∀ (k : Nat) (o : AObj), C.H[k]? = some o → o.kind ≠ 6 → C.μ k ≠ d) →
    (∀ C', C'.H = C.H → Good C' → Ext C0 C' → (∀ v x, VRel C v x → VRel C' v x) → LeavesIn Fence.wide 0 P fn tmps R [] .returning C'.w) →
    LeavesInM Fence.wide 0 P fn tmps R (D.map fun d => { target := .collected d, args := #[] }) .returning C.w
  | [], C, hg, he, _, _, h => h C rfl hg he (fun _ _ h => h)
  | d :: D, C, hg, he, hn, hD, h => by
    obtain ⟨a1, a2, a3, a4⟩ := hD d (by simp)
    have hn' := List.nodup_cons.1 hn
    obtain ⟨g1, g2, g3, g4⟩ := hg.shut a3 a4 (w' := { C.w with heap := C.w.heap.setIfInBounds d (.deferred none) }) rfl rfl rfl rfl (Nat.le_refl _)
    refine ⟨by simp, .inl ⟨d, { C.w with heap := C.w.heap.setIfInBounds d (.deferred none) }, rfl, ?_, ?_⟩⟩
    · simp only [Instr.takeDeferred, getObj, Sem.run_bind, Sem.run, a3, Result.andThen, setObj]; rfl
    · refine leaves_marks D { C with w := { C.w with heap := C.w.heap.setIfInBounds d (.deferred none) } } g1 (g4 C0 a1 he) hn'.2 (fun d' hd' => ?_) (fun C' h1 h2 h3 h4 => h C' h1 h2 h3 (fun v x hv => h4 v x (g3 v x hv)))
      obtain ⟨b1, b2, b3, b4⟩ := hD d' (by simp [hd'])
      have hne : d ≠ d' := fun e => hn'.1 (e ▸ hd')
      exact ⟨b1, by simpa using b2, by simp only; rw [Array.getElem?_setIfInBounds_ne hne]; exact b3, b4⟩
theorem ACall_of_AW {f : Nat} {fn : Func} {c : Code} {args : List AV} {H : List AObj} {R : AV → List AObj → Prop}
    (hf : P.funcs[f]? = some fn) (hb : fn.body = some c)
    (h : AW P none H c (fun e st' => match e with
      | .normal | .ret => ∀ C a, Good C → C.H = st'.heap → SRel C st' a → ∃ v r C', (results fn a.tmps).run P C.w = .ok v C.w ∧ C'.w = C.w ∧ Good C' ∧ (∀ C0, Ext C0 C → C0.H = H → Good C0 → Ext C0 C') ∧ VRel C' r v ∧ R r C'.H
      | _ => False) { slots := args ++ List.replicate (fn.ntmps - args.length) (.lit undef), heap := H }) : ACall P f args H R := fun C vs hg hH hsz hv => by
  refine callsIn_wide.1 (callsIn_of_wp_marks (F := Fence.wide) (n := 0) hf hb trivial ?_)
  have hs : SRel C { slots := args ++ List.replicate (fn.ntmps - args.length) (.lit undef), heap := H } { tmps := vs ++ Array.replicate (fn.ntmps - vs.size) undef, defers := [] } := by
    refine ⟨by simp [hsz], ?_⟩
    intro i h1 h2
    by_cases hi : i < args.length
    · have h' : i < vs.size := by omega
      simp only [List.getElem_append_left hi, Array.getElem_append_left h']
      exact hv i hi h'
    · have h' : ¬ i < vs.size := by omega
      simp only [List.getElem_append_right (Nat.le_of_not_lt hi), Array.getElem_append_right (Nat.le_of_not_lt h'), List.getElem_replicate, Array.getElem_replicate]
      exact .lit _
  refine wpIn_mono (h C C _ hH hg (Ext.refl C) hg hH ⟨hs, DefOk.nil rfl⟩) ?_
  rintro e a' w' ⟨C1, st1, rfl, hg1, hH1, hs1, he1, hq⟩
  have fin : (∀ C a, Good C → C.H = st1.heap → SRel C st1 a → ∃ v r C', (results fn a.tmps).run P C.w = .ok v C.w ∧ C'.w = C.w ∧ Good C' ∧ (∀ C0, Ext C0 C → C0.H = H → Good C0 → Ext C0 C') ∧ VRel C' r v ∧ R r C'.H) →
      LeavesInM Fence.wide 0 P fn a'.tmps (fun e w' => ∃ v r C', e = .returned v ∧ C'.w = w' ∧ Good C' ∧ Ext C C' ∧ VRel C' r v ∧ R r C'.H) a'.defers .returning C1.w := by
    intro hq
    obtain ⟨D, d1, d2, d3⟩ := hs1.defok
    rw [d1]
    refine leaves_marks D C1 hg1 he1 d2 d3 (fun C' h1 h2 h3 h4 => ?_)
    obtain ⟨v, r, C2, hr, hw2, hg2, hx2, hv2, hR⟩ := hq C' a' h2 (h1.trans hH1) ⟨hs1.size, fun i hi hi' => h4 _ _ (hs1.slot i hi hi')⟩
    exact ⟨v, hr, v, r, C2, rfl, hw2, hg2, hx2 C h3 hH hg, hv2, hR⟩
  cases e with
  | normal => exact fin hq
  | ret => exact fin hq
  | _ => exact hq.elim
end Ab
namespace Ab
open Go
structure SameOut (w w' : World) : Prop where
  os : w'.os = w.os
  tape : w'.tape = w.tape
  output : w'.output = w.output
  drawn : w.drawn ≤ w'.drawn
theorem get_push {α : Type} (xs : Array α) (x : α) (k : Nat) (h : k < xs.size) : (xs.push x)[k]? = xs[k]? := by
  rw [Array.getElem?_push, if_neg (by omega)]
theorem cell_eq {w w' : World} {b o : Nat} (h : w'.heap[b]? = w.heap[b]?) : w'.cell? ⟨b, o, none⟩ = w.cell? ⟨b, o, none⟩ := by
  simp [World.cell?, h]
theorem Good.S_lt {C : Ctx} (hg : Good C) {b o : Nat} (h : o < C.S b) : b < C.w.heap.size := by
  rcases Nat.lt_or_ge b C.w.heap.size with h' | h'
  · exact h'
  · rw [hg.fresh b h'] at h; omega
theorem step_new {C : Ctx} (hg : Good C) (o : AObj) (ob : Obj) (w' : World) (hw : w'.heap = C.w.heap.push ob) (so : SameOut C.w w') (hk : o.kind ≠ 6)
    {C' : Ctx} (hC : C' = ⟨C.S, fun k => if k = C.H.length then C.w.heap.size else C.μ k, C.H ++ [o], w'⟩) (hor : Ext C C' → ORel C' C.H.length o) : Good C' ∧ Ext C C' := by
  subst hC
  have hold : ∀ k (o' : AObj), C.H[k]? = some o' → k < C.H.length := fun k o' h => (List.getElem?_eq_some_iff.1 h).1
  have hH : ∀ k (o' : AObj), C.H[k]? = some o' → (C.H ++ [o])[k]? = some o' := fun k o' h => by rw [List.getElem?_append_left (hold k o' h)]; exact h
  have hmu : ∀ k, k < C.H.length → (if k = C.H.length then C.w.heap.size else C.μ k) = C.μ k := fun k h => by rw [if_neg (by omega)]
  have hheap : ∀ b, b < C.w.heap.size → w'.heap[b]? = C.w.heap[b]? := fun b hb => by rw [hw]; exact get_push _ _ _ hb
  have hnew : ∀ k (o' : AObj), (C.H ++ [o])[k]? = some o' → (k < C.H.length ∧ C.H[k]? = some o') ∨ (k = C.H.length ∧ o' = o) := fun k o' h => by
    rcases Nat.lt_or_ge k C.H.length with h' | h'
    · rw [List.getElem?_append_left h'] at h; exact .inl ⟨h', h⟩
    · rw [List.getElem?_append_right h'] at h
      have : k - C.H.length = 0 := by
        rcases Nat.eq_zero_or_pos (k - C.H.length) with e | e
        · exact e
        · rw [List.getElem?_eq_none (by simp; omega)] at h; cases h
      rw [this] at h
      exact .inr ⟨by omega, by simpa using h.symm⟩
  have he : Ext C ⟨C.S, fun k => if k = C.H.length then C.w.heap.size else C.μ k, C.H ++ [o], w'⟩ := by
    refine ⟨so.os, so.tape, so.output, so.drawn, ?_, fun _ => Nat.le_refl _, ?_, ?_, ?_, ?_, ?_, ?_, ?_, ?_⟩
    · show C.w.heap.size ≤ w'.heap.size; rw [hw]; simp
    · intro b q hq; exact cell_eq (hheap b (hg.S_lt hq))
    · intro b hb _; exact hheap b hb
    · intro k o' hk' hd
      rcases hnew k o' hk' with ⟨h1, h2⟩ | ⟨h1, h2⟩
      · exact .inr ⟨k, o', h2, hd, (hmu k h1).symm⟩
      · left; show C.w.heap.size ≤ if k = C.H.length then C.w.heap.size else C.μ k; rw [if_pos h1]; exact Nat.le_refl _
    · intro k o' h; exact ⟨o', hH k o' h, fun _ => rfl⟩
    · intro k o' h _ _; exact hmu k (hold k o' h)
    · intro k e sz len h; exact ⟨len, hH k _ h, Nat.le_refl _, fun _ => ⟨hmu k (hold k _ h), fun cur hc => ⟨cur, by rw [hheap _ (hg.lt k _ h (by simp [AObj.kind]))]; exact hc, rfl⟩⟩⟩
    · intro k ver es h; exact ⟨ver, es, hH k _ h, Nat.le_refl _, fun _ => ⟨rfl, hheap _ (hg.lt k _ h (by simp [AObj.kind]))⟩⟩
    · intro k e sz vs h; exact ⟨vs, hH k _ h, Nat.le_refl _, fun _ => ⟨hmu k (hold k _ h), fun cur hc => ⟨cur, by rw [hheap _ (hg.lt k _ h (by simp [AObj.kind]))]; exact hc, rfl⟩⟩⟩
  refine ⟨⟨?_, ?_, ?_, ?_, hg.tab.ext he⟩, he⟩
  · intro k o' h
    rcases hnew k o' h with ⟨h1, h2⟩ | ⟨h1, h2⟩
    · by_cases hd : o'.kind = 6
      · cases o' <;> first | trivial | (simp [AObj.kind] at hd)
      · exact ORel.ext he (hmu k h1) (hheap _ (hg.lt k o' h2 hd)) rfl (hg.obj k o' h2)
    · subst h1; subst h2; exact hor he
  · intro k o' h hd
    show (if k = C.H.length then C.w.heap.size else C.μ k) < w'.heap.size
    rw [hw]
    rcases hnew k o' h with ⟨h1, h2⟩ | ⟨h1, h2⟩
    · rw [if_neg (by omega)]; have := hg.lt k o' h2 hd; simp; omega
    · rw [if_pos h1]; simp
  · intro j k o1 o2 h1 h2 d1 d2 hmm
    simp only at hmm
    rcases hnew j o1 h1 with ⟨a1, a2⟩ | ⟨a1, a2⟩ <;> rcases hnew k o2 h2 with ⟨b1, b2⟩ | ⟨b1, b2⟩
    · rw [hmu j a1, hmu k b1] at hmm; exact hg.inj j k o1 o2 a2 b2 d1 d2 hmm
    · rw [hmu j a1, if_pos b1] at hmm; have := hg.lt j o1 a2 d1; omega
    · rw [hmu k b1, if_pos a1] at hmm; have := hg.lt k o2 b2 d2; omega
    · omega
  · intro b hb
    exact hg.fresh b (by rw [hw] at hb; simp at hb; omega)
theorem step_imm {C : Ctx} (hg : Good C) (ob : Obj) (n : Nat) (w' : World) (hw : w'.heap = C.w.heap.push ob) (so : SameOut C.w w')
    {C' : Ctx} (hC : C' = ⟨fun b => if b = C.w.heap.size then n else C.S b, C.μ, C.H, w'⟩) : Good C' ∧ Ext C C' := by
  subst hC
  have hheap : ∀ b, b < C.w.heap.size → w'.heap[b]? = C.w.heap[b]? := fun b hb => by rw [hw]; exact get_push _ _ _ hb
  have he : Ext C ⟨fun b => if b = C.w.heap.size then n else C.S b, C.μ, C.H, w'⟩ := by
    refine ⟨so.os, so.tape, so.output, so.drawn, ?_, ?_, ?_, ?_, fun k o h hd => .inr ⟨k, o, h, hd, rfl⟩, fun k o h => ⟨o, h, fun _ => rfl⟩, fun _ _ _ _ _ => rfl, ?_, ?_, ?_⟩
    · show C.w.heap.size ≤ w'.heap.size; rw [hw]; simp
    · intro b
      show C.S b ≤ if b = C.w.heap.size then n else C.S b
      split
      · rename_i h; rw [hg.fresh b (by omega)]; exact Nat.zero_le _
      · exact Nat.le_refl _
    · intro b q hq; exact cell_eq (hheap b (hg.S_lt hq))
    · intro b hb _; exact hheap b hb
    · intro k e sz len h; exact ⟨len, h, Nat.le_refl _, fun _ => ⟨rfl, fun cur hc => ⟨cur, by rw [hheap _ (hg.lt k _ h (by simp [AObj.kind]))]; exact hc, rfl⟩⟩⟩
    · intro k ver es h; exact ⟨ver, es, h, Nat.le_refl _, fun _ => ⟨rfl, hheap _ (hg.lt k _ h (by simp [AObj.kind]))⟩⟩
    · intro k e sz vs h; exact ⟨vs, h, Nat.le_refl _, fun _ => ⟨rfl, fun cur hc => ⟨cur, by rw [hheap _ (hg.lt k _ h (by simp [AObj.kind]))]; exact hc, rfl⟩⟩⟩
  refine ⟨⟨?_, ?_, hg.inj, ?_, hg.tab.ext he⟩, he⟩
  · intro k o h
    by_cases hd : o.kind = 6
    · cases o <;> first | trivial | (simp [AObj.kind] at hd)
    · have hlt := hg.lt k o h hd
      exact ORel.ext he rfl (hheap _ hlt) (by show (if _ then _ else _) = _; rw [if_neg (by omega)]) (hg.obj k o h)
  · intro k o h hd
    have := hg.lt k o h hd
    show C.μ k < w'.heap.size
    rw [hw]; simp; omega
  · intro b hb
    have hb' : C.w.heap.size < b := by have : w'.heap.size ≤ b := hb; rw [hw] at this; simp at this; omega
    show (if b = C.w.heap.size then n else C.S b) = 0
    rw [if_neg (by omega)]; exact hg.fresh b (by omega)
theorem step_same {C : Ctx} (hg : Good C) (w' : World) (hw : w'.heap = C.w.heap) (so : SameOut C.w w') : Good { C with w := w' } ∧ Ext C { C with w := w' } := by
  have he : Ext C { C with w := w' } := by
    refine ⟨so.os, so.tape, so.output, so.drawn, by show _ ≤ w'.heap.size; rw [hw]; exact Nat.le_refl _, fun _ => Nat.le_refl _, fun b q _ => cell_eq (by rw [hw]), fun b _ _ => by rw [hw],
      fun k o h hd => .inr ⟨k, o, h, hd, rfl⟩, fun k o h => ⟨o, h, fun _ => rfl⟩, fun _ _ _ _ _ => rfl, ?_, ?_, ?_⟩
    · intro k e sz len h; exact ⟨len, h, Nat.le_refl _, fun _ => ⟨rfl, fun cur hc => ⟨cur, by rw [hw]; exact hc, rfl⟩⟩⟩
    · intro k ver es h; exact ⟨ver, es, h, Nat.le_refl _, fun _ => ⟨rfl, by rw [hw]⟩⟩
    · intro k e sz vs h; exact ⟨vs, h, Nat.le_refl _, fun _ => ⟨rfl, fun cur hc => ⟨cur, by rw [hw]; exact hc, rfl⟩⟩⟩
  refine ⟨⟨fun k o h => ORel.ext he rfl (by rw [hw]) rfl (hg.obj k o h), fun k o h hd => by rw [hw]; exact hg.lt k o h hd, hg.inj, fun b hb => hg.fresh b (by rw [hw] at hb; exact hb), hg.tab.ext he⟩, he⟩
theorem step_set {C : Ctx} (hg : Good C) (k : Nat) (o o' : AObj) (ob : Obj) (w' : World) (hk : C.H[k]? = some o) (hkind : o'.kind = o.kind) (h1 : o.kind ≠ 1) (h6 : o.kind ≠ 6) (hS : C.S (C.μ k) = 0)
    (hw : w'.heap = C.w.heap.setIfInBounds (C.μ k) ob) (so : SameOut C.w w') (hver : ∀ v es, o = .map v es → ∃ v' es', o' = .map v' es' ∧ v < v')
    {C' : Ctx} (hC : C' = ⟨C.S, C.μ, C.H.set k o', w'⟩) (hor : Ext C C' → ORel C' k o') : Good C' ∧ Ext C C' := by
  subst hC
  have hlt := hg.lt k o hk h6
  have hkl : k < C.H.length := (List.getElem?_eq_some_iff.1 hk).1
  have hheap : ∀ b, b ≠ C.μ k → w'.heap[b]? = C.w.heap[b]? := fun b hb => by rw [hw, Array.getElem?_setIfInBounds_ne (Ne.symm hb)]
  have hother : ∀ j (p : AObj), j ≠ k → C.H[j]? = some p → p.kind ≠ 6 → C.μ j ≠ C.μ k := fun j p hj hp hd e => hj (hg.inj j k p o hp hk hd h6 e)
  have hset : ∀ j, j ≠ k → (C.H.set k o')[j]? = C.H[j]? := fun j hj => by rw [List.getElem?_set, if_neg (Ne.symm hj)]
  have hsame : (C.H.set k o')[k]? = some o' := by rw [List.getElem?_set, if_pos rfl]; simp [hkl]
  have he : Ext C ⟨C.S, C.μ, C.H.set k o', w'⟩ := by
    refine ⟨so.os, so.tape, so.output, so.drawn, by show _ ≤ w'.heap.size; rw [hw]; simp, fun _ => Nat.le_refl _, ?_, ?_, ?_, ?_, fun _ _ _ _ _ => rfl, ?_, ?_, ?_⟩
    · intro b q hq
      refine cell_eq (hheap b ?_)
      intro e; subst e; rw [hS] at hq; omega
    · intro b hb hno; exact hheap b (fun e => hno k o hk h6 e.symm)
    · intro j p hj hd
      by_cases e : j = k
      · exact .inr ⟨k, o, hk, h6, by rw [e]⟩
      · exact .inr ⟨j, p, by rw [← hset j e]; exact hj, hd, rfl⟩
    · intro j p hj
      by_cases e : j = k
      · rw [e] at hj ⊢; rw [hk] at hj; injection hj with hj; exact ⟨o', hsame, fun _ => by rw [← hj]; exact hkind⟩
      · exact ⟨p, by show (C.H.set k o')[j]? = _; rw [hset j e]; exact hj, fun _ => rfl⟩
    · intro j e sz len hj
      have hne : j ≠ k := fun ee => by rw [ee, hk] at hj; injection hj with hj; subst hj; exact h1 rfl
      exact ⟨len, by show (C.H.set k o')[j]? = _; rw [hset j hne]; exact hj, Nat.le_refl _, fun _ => ⟨rfl, fun cur hc => ⟨cur, by rw [hheap _ (hother j _ hne hj (by simp [AObj.kind]))]; exact hc, rfl⟩⟩⟩
    · intro j ver es hj
      by_cases e : j = k
      · rw [e, hk] at hj; injection hj with hj
        obtain ⟨v', es', e', hv⟩ := hver ver es hj
        exact ⟨v', es', by rw [e]; show (C.H.set k o')[k]? = _; rw [hsame, e'], Nat.le_of_lt hv, fun ee => by omega⟩
      · exact ⟨ver, es, by show (C.H.set k o')[j]? = _; rw [hset j e]; exact hj, Nat.le_refl _, fun _ => ⟨rfl, hheap _ (hother j _ e hj (by simp [AObj.kind]))⟩⟩
    · intro j e sz vs hj
      have hne : j ≠ k := fun ee => by rw [ee, hk] at hj; injection hj with hj; subst hj; exact h1 rfl
      exact ⟨vs, by show (C.H.set k o')[j]? = _; rw [hset j hne]; exact hj, Nat.le_refl _, fun _ => ⟨rfl, fun cur hc => ⟨cur, by rw [hheap _ (hother j _ hne hj (by simp [AObj.kind]))]; exact hc, rfl⟩⟩⟩
  refine ⟨⟨?_, ?_, ?_, ?_, hg.tab.ext he⟩, he⟩
  · intro j p hj
    by_cases e : j = k
    · subst e; rw [hsame] at hj; injection hj with hj; rw [← hj]; exact hor he
    · rw [hset j e] at hj
      by_cases hd : p.kind = 6
      · cases p <;> first | trivial | (simp [AObj.kind] at hd)
      · exact ORel.ext he rfl (hheap _ (hother j p e hj hd)) rfl (hg.obj j p hj)
  · intro j p hj hd
    show C.μ j < w'.heap.size
    rw [hw, Array.size_setIfInBounds]
    by_cases e : j = k
    · rw [e]; exact hlt
    · rw [hset j e] at hj; exact hg.lt j p hj hd
  · intro i j p q hi hj hd1 hd2 hmm
    have l1 : ∃ p', C.H[i]? = some p' ∧ p'.kind ≠ 6 := by
      by_cases e : i = k
      · exact ⟨o, by rw [e]; exact hk, h6⟩
      · exact ⟨p, by rw [← hset i e]; exact hi, hd1⟩
    have l2 : ∃ p', C.H[j]? = some p' ∧ p'.kind ≠ 6 := by
      by_cases e : j = k
      · exact ⟨o, by rw [e]; exact hk, h6⟩
      · exact ⟨q, by rw [← hset j e]; exact hj, hd2⟩
    obtain ⟨p', a1, a2⟩ := l1
    obtain ⟨q', b1, b2⟩ := l2
    exact hg.inj i j p' q' a1 b1 a2 b2 hmm
  · intro b hb; exact hg.fresh b (by rw [hw, Array.size_setIfInBounds] at hb; exact hb)
theorem SameOut.refl (w : World) : SameOut w w := ⟨rfl, rfl, rfl, by first | exact Nat.le_refl _ | exact Nat.le_add_right _ _⟩
theorem VRel.cells {C : Ctx} {v : AV} {x : Value} (h : VRel C v x) (hc : v.isCell = true ∨ ∃ cs, v = .agg cs) : x.cells.size = v.cells.length ∧
    ∀ i (h1 : i < v.cells.length) (h2 : i < x.cells.size), VRel C v.cells[i] x.cells[i] := by
  rcases hc with hc | ⟨cs, rfl⟩
  · have ho := h.oneCell hc
    have e1 : v.cells = [v] := by cases v <;> first | rfl | (simp [AV.isCell] at hc)
    have e2 : x.cells = #[x] := by cases x <;> first | rfl | (simp [Value.oneCell'] at ho)
    rw [e1, e2]
    refine ⟨rfl, fun i h1 h2 => ?_⟩
    have : i = 0 := by simp at h1; exact h1
    subst this; exact h
  · cases h with
    | agg cs vs hsz hrel => exact ⟨hsz, fun i h1 h2 => hrel i h1⟩
end Ab
namespace Ab
open Go
variable {P : Program} {ro : Option Nat} {Q : Exit → ASt → Prop} {st : ASt} {dst : Option Tmp} {ty : TypeId} {pos : String} {after : Array Edge} {guard : Option (Nat × Bool)} {K : AV → List AObj → Prop}
theorem AOp_pure {o : Oper} (v : AV) (hd : ∀ c, o.op ≠ .defer c)
    (h : ∀ C a, Good C → C.H = st.heap → SRel C st a → ∃ x, (execOp a.eval o).run P C.w = .ok (.value x) C.w ∧ VRel C v x) (k : K v st.heap) : AOp P ro o K st :=
  AOp_value (fun ρ => semAt_of hd ro ρ) fun C a hg hH hs => by
    obtain ⟨x, hr, hv⟩ := h C a hg hH hs
    exact ⟨C, x, v, hr, hg, Ext.refl C, hv, by rw [hH]; exact k⟩
theorem AOp_move {x : Operand} (k : K (st.opd x) st.heap) : AOp P ro ⟨dst, .move x, ty, pos, after, guard⟩ K st :=
  AOp_pure _ (fun c => by simp) (fun C a _ _ hs => ⟨a.eval x, rfl, hs.opd x⟩) k
theorem AOp_assign {x : Operand} (k : K (st.opd x) st.heap) : AOp P ro ⟨dst, .assign x, ty, pos, after, guard⟩ K st :=
  AOp_pure _ (fun c => by simp) (fun C a _ _ hs => ⟨a.eval x, rfl, hs.opd x⟩) k
theorem AOp_pick {c x y : Operand} (b : Bool) (hc : st.opd c = .bool b) (k : K (if b then st.opd x else st.opd y) st.heap) : AOp P ro ⟨dst, .pick c x y, ty, pos, after, guard⟩ K st :=
  AOp_pure _ (fun c => by simp) (fun C a _ _ hs => by
    have hv := hs.opd c
    rw [hc] at hv
    refine ⟨if b then a.eval x else a.eval y, by simp [execOp, hv.bool_inv, asBool], ?_⟩
    cases b
    · exact hs.opd y
    · exact hs.opd x) k
def SzOf (P : Program) (t n : Nat) : Prop := (P.info? t).map (·.size) = some n
def AggT (P : Program) (t : TypeId) (b : Bool) : Prop := (match P.underlying t with | some (.struct _) | some (.array _ _) => some true | some _ => some false | none => none) = some b
def FieldT (P : Program) (t i off sz : Nat) : Prop := (match P.underlying t with | some (.struct fs) => (fs[i]?).bind fun f => (P.info? f.type).map fun i => (f.offset, i.size) | _ => none) = some (off, sz)
def FieldA (P : Program) (t i off sz : Nat) (agg : Bool) : Prop := FieldT P t i off sz ∧ (match P.underlying t with | some (.struct fs) => (fs[i]?).bind fun f => (match P.underlying f.type with | some (.struct _) | some (.array _ _) => some true | some _ => some false | none => none) | _ => none) = some agg
def SliceT (P : Program) (t e : TypeId) : Prop := P.underlying t = some (.slice e)
theorem SzOf.run {t n : Nat} (h : SzOf P t n) (w : World) : (Go.sizeOf t).run P w = .ok n w := by
  unfold SzOf at h
  cases hi : P.info? t with
  | none => simp [hi] at h
  | some i => simp [hi] at h; simp [Go.sizeOf, typeInfo, hi, h]
theorem AggT.run {t : TypeId} {b : Bool} (h : AggT P t b) (w : World) : (isAgg t).run P w = .ok b w := by
  unfold AggT at h
  cases hu : P.underlying t with
  | none => simp [hu] at h
  | some d =>
    unfold isAgg
    rw [Sem.run_bind, run_underlying hu w]
    cases d <;> simp_all
theorem add_mk (b o j : Nat) : (⟨b, o, none⟩ : Addr).add j = ⟨b, o + j, none⟩ := by unfold Addr.add; split <;> simp_all
theorem fieldAt_run {t i off sz : Nat} (h : FieldT P t i off sz) (hsz : sz ≠ 0) (w : World) (b o : Nat) :
    (Instr.fieldAt t (.pointer (some ⟨b, o, none⟩)) i).run P w = .ok (.pointer (some ⟨b, o + off, none⟩)) w := by
  unfold FieldT at h
  cases hu : P.underlying t with
  | none => simp [hu] at h
  | some d =>
    cases d <;> simp [hu] at h
    rename_i fs
    cases hf : fs[i]? with
    | none => simp [hf] at h
    | some f =>
      simp [hf] at h
      obtain ⟨inf, hi, h1, h2⟩ := h
      simp [Instr.fieldAt, run_underlying hu, hf, Instr.sureAddr, fieldPlace, Go.sizeOf, typeInfo, hi, h2, hsz, add_mk, h1]
theorem AOp_fieldAddr_ptr {t i : Nat} {x : Operand} (off sz id o : Nat) (hx : st.opd x = .ptr id o) (hf : FieldT P t i off sz) (hsz : sz ≠ 0)
    (k : K (.ptr id (o + off)) st.heap) : AOp P ro ⟨dst, .fieldAddr t x i, ty, pos, after, guard⟩ K st :=
  AOp_pure _ (fun c => by simp) (fun C a _ _ hs => by
    have hv := hs.opd x
    rw [hx] at hv
    generalize hxx : a.eval x = xx at hv
    cases hv with
    | ptr _ _ hk => exact ⟨_, by simp [execOp, hxx, fieldAt_run hf hsz], .ptr id (o + off) hk⟩) k
theorem RowOk.drop {C : Ctx} {n b o : Nat} {f : Nat → Value} (h : RowOk C n b o f) (d : Nat) (hd : d ≤ n) : RowOk C (n - d) b (o + d) (fun j => f (d + j)) := fun j hj => by
  have := h (d + j) (by omega)
  rw [← Nat.add_assoc] at this
  exact this
theorem VRel.cptr_drop {C : Ctx} {cs : List AV} {b o : Nat} {f : Nat → Value} (hrow : RowOk C cs.length b o f) (hrel : ∀ j (h : j < cs.length), VRel C cs[j] (f j)) (d : Nat) (hd : d ≤ cs.length) :
    VRel C (.cptr (cs.drop d)) (.pointer (some ⟨b, o + d, none⟩)) :=
  .cptr _ b (o + d) (fun j => f (d + j)) (by rw [List.length_drop]; exact hrow.drop d hd) (fun j h => by
    rw [List.getElem_drop]; exact hrel _ _)
theorem AOp_fieldAddr_cptr {t i : Nat} {x : Operand} (off sz : Nat) (cs : List AV) (hx : st.opd x = .cptr cs) (hf : FieldT P t i off sz) (hsz : sz ≠ 0) (hle : off ≤ cs.length)
    (k : K (.cptr (cs.drop off)) st.heap) : AOp P ro ⟨dst, .fieldAddr t x i, ty, pos, after, guard⟩ K st :=
  AOp_pure _ (fun c => by simp) (fun C a _ _ hs => by
    have hv := hs.opd x
    rw [hx] at hv
    generalize hxx : a.eval x = xx at hv
    cases hv with
    | cptr _ b o f hrow hrel => exact ⟨_, by simp [execOp, hxx, fieldAt_run hf hsz], VRel.cptr_drop hrow hrel off hle⟩) k
theorem loadVar_run {t n : Nat} {agg : Bool} (hs : SzOf P t n) (ha : AggT P t agg) (w : World) (b o : Nat) (f : Nat → Value) (h : ∀ j, j < n → w.cell? ⟨b, o + j, none⟩ = some (f j)) (h1 : agg = false → 0 < n) :
    (loadVar t ⟨b, o, none⟩).run P w = .ok (if agg then .agg ((List.range n).map f).toArray else f 0) w := by
  cases agg with
  | true =>
    have hl := run_loadCells (P := P) w ⟨b, o, none⟩ n f (fun j hj => by rw [add_mk]; exact h j hj)
    simp [loadVar, ha.run, hs.run, hl]
  | false =>
    have h0 := h 0 (h1 rfl)
    simp at h0
    simp [loadVar, ha.run, h0]
theorem VRel.aggRange {C : Ctx} {cs : List AV} {f : Nat → Value} (hrel : ∀ j (h : j < cs.length), VRel C cs[j] (f j)) : VRel C (.agg cs) (.agg ((List.range cs.length).map f).toArray) :=
  .agg cs _ (by simp) (fun i h => by simpa using hrel i h)
theorem AOp_load_ptr {t : Nat} {x : Operand} (n id o : Nat) (vs : List AV) (hx : st.opd x = .ptr id o) (hh : st.heap[id]? = some (.cells vs)) (hs : SzOf P t n) (ha : AggT P t true) (hle : o + n ≤ vs.length)
    (k : K (.agg ((vs.drop o).take n)) st.heap) : AOp P ro ⟨dst, .load t x, ty, pos, after, guard⟩ K st :=
  AOp_pure _ (fun c => by simp) (fun C a hg hH hsr => by
    have hv := hsr.opd x
    rw [hx] at hv
    generalize hxx : a.eval x = xx at hv
    cases hv with
    | ptr _ _ hk =>
      obtain ⟨c, e, h1, h2, h3, h4⟩ := hg.obj id _ (by rw [hH]; exact hh)
      obtain ⟨f, hf⟩ : ∃ f : Nat → Value, ∀ j (h : o + j < c.size), f j = c[o + j] := ⟨fun j => c.getD (o + j) undef, fun j h => by simp [h]⟩
      have hl := loadVar_run hs ha C.w (C.μ id) o f (fun j hj => by
        have : o + j < c.size := by omega
        simp [World.cell?, h1, this, hf j this]) (by simp)
      refine ⟨_, by simp [execOp, hxx, Instr.loadAt, Instr.sureAddr, hl]; rfl, ?_⟩
      have hlen : ((vs.drop o).take n).length = n := by simp; omega
      have := VRel.aggRange (C := C) (cs := (vs.drop o).take n) (f := f) (fun j hj => by
        have hj' : j < n := by omega
        have hq : o + j < c.size := by omega
        have := (h4 (o + j) (by omega) hq).1
        rw [hf j hq]
        simpa using this)
      rwa [hlen] at this) k
theorem AOp_load1_ptr {t : Nat} {x : Operand} (n id o : Nat) (vs : List AV) (v : AV) (hx : st.opd x = .ptr id o) (hh : st.heap[id]? = some (.cells vs)) (hs : SzOf P t n) (ha : AggT P t false) (hn : 0 < n) (hle : o + n ≤ vs.length) (hv0 : vs[o]? = some v)
    (k : K v st.heap) : AOp P ro ⟨dst, .load t x, ty, pos, after, guard⟩ K st :=
  AOp_pure _ (fun c => by simp) (fun C a hg hH hsr => by
    have hv := hsr.opd x
    rw [hx] at hv
    generalize hxx : a.eval x = xx at hv
    cases hv with
    | ptr _ _ hk =>
      obtain ⟨c, e, h1, h2, h3, h4⟩ := hg.obj id _ (by rw [hH]; exact hh)
      obtain ⟨f, hf⟩ : ∃ f : Nat → Value, ∀ j (h : o + j < c.size), f j = c[o + j] := ⟨fun j => c.getD (o + j) undef, fun j h => by simp [h]⟩
      have hl := loadVar_run hs ha C.w (C.μ id) o f (fun j hj => by
        have : o + j < c.size := by omega
        simp [World.cell?, h1, this, hf j this]) (fun _ => hn)
      have hq : o < c.size := by omega
      refine ⟨f 0, by simp [execOp, hxx, Instr.loadAt, Instr.sureAddr, hl], ?_⟩
      have h5 := (h4 o (by omega) hq).1
      have : vs[o] = v := by have := List.getElem?_eq_some_iff.1 hv0; exact this.2
      rw [this] at h5
      rw [hf 0 (by omega)]
      exact h5) k
theorem AOp_load_cptr {t : Nat} {x : Operand} (n : Nat) (cs : List AV) (hx : st.opd x = .cptr cs) (hs : SzOf P t n) (ha : AggT P t true) (hle : n ≤ cs.length)
    (k : K (.agg (cs.take n)) st.heap) : AOp P ro ⟨dst, .load t x, ty, pos, after, guard⟩ K st :=
  AOp_pure _ (fun c => by simp) (fun C a hg hH hsr => by
    have hv := hsr.opd x
    rw [hx] at hv
    generalize hxx : a.eval x = xx at hv
    cases hv with
    | cptr _ b o f hrow hrel =>
      have hl := loadVar_run hs ha C.w b o f (fun j hj => (hrow j (by omega)).2) (by simp)
      refine ⟨_, by simp [execOp, hxx, Instr.loadAt, Instr.sureAddr, hl]; rfl, ?_⟩
      have hlen : (cs.take n).length = n := by simp; omega
      have := VRel.aggRange (C := C) (cs := cs.take n) (f := f) (fun j hj => by
        have := hrel j (by omega)
        simpa using this)
      rwa [hlen] at this) k
theorem AOp_load1_cptr {t : Nat} {x : Operand} (n : Nat) (v : AV) (cs : List AV) (hx : st.opd x = .cptr (v :: cs)) (hs : SzOf P t n) (ha : AggT P t false) (hn : n = 1)
    (k : K v st.heap) : AOp P ro ⟨dst, .load t x, ty, pos, after, guard⟩ K st :=
  AOp_pure _ (fun c => by simp) (fun C a hg hH hsr => by
    have hv := hsr.opd x
    rw [hx] at hv
    generalize hxx : a.eval x = xx at hv
    cases hv with
    | cptr _ b o f hrow hrel =>
      subst hn
      have hl := loadVar_run hs ha C.w b o f (fun j hj => (hrow j (by simp; omega)).2) (fun _ => by omega)
      exact ⟨_, by simp [execOp, hxx, Instr.loadAt, Instr.sureAddr, hl], hrel 0 (by simp)⟩) k
theorem VRel.agg_inv {C : Ctx} {cs : List AV} {x : Value} (h : VRel C (.agg cs) x) : ∃ vs : Array Value, x = .agg vs ∧ ∃ hsz : vs.size = cs.length, ∀ i (h : i < cs.length), VRel C cs[i] (vs[i]'(hsz ▸ h)) := by
  cases h with | agg _ vs hsz hrel => exact ⟨vs, rfl, hsz, hrel⟩
theorem field_run {t i off sz : Nat} {agg : Bool} (h : FieldA P t i off sz agg) (w : World) (vs : Array Value) (hle : off + sz ≤ vs.size) (h1 : agg = false → 0 < sz) :
    (Instr.field t (.agg vs) i).run P w = .ok (if agg then .agg (vs.extract off (off + sz)) else vs.getD off undef) w := by
  obtain ⟨hf, hb⟩ := h
  unfold FieldT at hf
  cases hu : P.underlying t with
  | none => simp [hu] at hf
  | some d =>
    cases d <;> simp [hu] at hf
    rename_i fs
    cases hfi : fs[i]? with
    | none => simp [hfi] at hf
    | some f =>
      simp [hfi] at hf
      obtain ⟨inf, hi, e1, e2⟩ := hf
      simp [hu, hfi] at hb
      have hagg : AggT P f.type agg := hb
      have hsz : SzOf P f.type sz := by unfold SzOf; rw [hi]; simp [e2]
      cases agg with
      | true => simp [Instr.field, run_underlying hu, hfi, asAgg, part, hagg.run, hsz.run, e1]
      | false =>
        have hlt : off < vs.size := by have := h1 rfl; omega
        simp [Instr.field, run_underlying hu, hfi, asAgg, part, hagg.run, e1, hlt]
theorem AOp_field {t i : Nat} {x : Operand} (off sz : Nat) (cs : List AV) (hx : st.opd x = .agg cs) (hf : FieldA P t i off sz true) (hle : off + sz ≤ cs.length)
    (k : K (.agg ((cs.drop off).take sz)) st.heap) : AOp P ro ⟨dst, .field t x i, ty, pos, after, guard⟩ K st :=
  AOp_pure _ (fun c => by simp) (fun C a _ _ hs => by
    have hv := hs.opd x
    rw [hx] at hv
    obtain ⟨vs, hxx, hsz, hrel⟩ := hv.agg_inv
    refine ⟨_, by simp [execOp, hxx, field_run hf C.w vs (by omega) (by simp)]; rfl, ?_⟩
    refine .agg _ _ (by simp; omega) (fun j hj => ?_)
    simp at hj
    have := hrel (off + j) (by omega)
    simpa using this) k
theorem AOp_field1 {t i : Nat} {x : Operand} (off sz : Nat) (cs : List AV) (v : AV) (hx : st.opd x = .agg cs) (hf : FieldA P t i off sz false) (hn : 0 < sz) (hle : off + sz ≤ cs.length) (hv0 : cs[off]? = some v)
    (k : K v st.heap) : AOp P ro ⟨dst, .field t x i, ty, pos, after, guard⟩ K st :=
  AOp_pure _ (fun c => by simp) (fun C a _ _ hs => by
    have hv := hs.opd x
    rw [hx] at hv
    obtain ⟨vs, hxx, hsz, hrel⟩ := hv.agg_inv
    refine ⟨_, by simp [execOp, hxx, field_run hf C.w vs (by omega) (fun _ => hn)]; rfl, ?_⟩
    have h5 := hrel off (by omega)
    have : cs[off]'(by omega) = v := (List.getElem?_eq_some_iff.1 hv0).2
    rw [this] at h5
    have hlt : off < vs.size := by omega
    simpa [hlt] using h5) k
theorem AOp_extract {i : Nat} {x : Operand} (cs : List AV) (v : AV) (hx : st.opd x = .tup cs) (hv0 : cs[i]? = some v)
    (k : K v st.heap) : AOp P ro ⟨dst, .extract x i, ty, pos, after, guard⟩ K st :=
  AOp_pure _ (fun c => by simp) (fun C a _ _ hs => by
    have hv := hs.opd x
    rw [hx] at hv
    generalize hxx : a.eval x = xx at hv
    cases hv with
    | tup _ vs hsz hrel =>
      have hi : i < cs.length := (List.getElem?_eq_some_iff.1 hv0).1
      have h5 := hrel i hi
      have : cs[i] = v := (List.getElem?_eq_some_iff.1 hv0).2
      rw [this] at h5
      have hlt : i < vs.size := by omega
      exact ⟨_, by simp [execOp, hxx, Instr.extract, hlt], h5⟩) k
def Uni (sz : Nat) (xs : List AV) : Prop := ∀ x, x ∈ xs → x.cells.length = sz
theorem flat_length {sz : Nat} : ∀ {xs : List AV}, Uni sz xs → (flat xs).length = xs.length * sz
  | [], _ => by simp [flat]
  | x :: xs, h => by
    have h1 := h x (by simp)
    have h2 := flat_length (xs := xs) (fun y hy => h y (by simp [hy]))
    unfold flat at h2 ⊢
    simp only [List.flatMap_cons, List.length_append, h2, h1, List.length_cons, Nat.add_mul]
    omega
theorem flat_get {sz : Nat} : ∀ {xs : List AV}, Uni sz xs → ∀ i j (hi : i < xs.length) (hj : j < sz), (flat xs)[i * sz + j]? = (xs[i]).cells[j]?
  | [], _, i, j, hi, _ => absurd hi (by simp)
  | x :: xs, h, i, j, hi, hj => by
    have h1 := h x (by simp)
    have h2 : Uni sz xs := fun y hy => h y (by simp [hy])
    unfold flat
    simp only [List.flatMap_cons]
    cases i with
    | zero => rw [List.getElem?_append_left (by omega)]; simp
    | succ i =>
      rw [List.getElem?_append_right (by rw [h1, Nat.add_mul]; omega)]
      have := flat_get h2 i j (by simpa using hi) hj
      unfold flat at this
      rw [h1, show (i + 1) * sz + j - sz = i * sz + j by rw [Nat.add_mul]; omega, this]
      rfl
theorem idx_lt {n sz i j : Nat} (hi : i < n) (hj : j < sz) : i * sz + j < n * sz := by
  have : (i + 1) * sz ≤ n * sz := Nat.mul_le_mul_right sz hi
  rw [Nat.add_mul] at this
  omega
theorem AOp_indexAddr_sl {t : Nat} {x y : Operand} (e sz : Nat) (tk : Tok) (xs : List AV) (kd : IntKind) (n : Int) (hx : st.opd x = .sl tk xs) (hy : st.opd y = .int kd n) (ht : SliceT P t e) (hs : SzOf P e sz) (hsz : 0 < sz) (hu : Uni sz xs)
    (h0 : 0 ≤ n) (hlt : n.toNat < xs.length) (k : K (.cptr (xs[n.toNat]).cells) st.heap) : AOp P ro ⟨dst, .indexAddr t x y, ty, pos, after, guard⟩ K st :=
  AOp_pure _ (fun c => by simp) (fun C a _ _ hsr => by
    have hv := hsr.opd x
    have hi := hsr.opd y
    rw [hx] at hv
    rw [hy] at hi
    generalize hxx : a.eval x = xx at hv
    cases hv with
    | sl _ _ ad n' c f hn hc hrow hrel htok =>
      have hfl := flat_length hu
      have hne : flat xs ≠ [] := fun he => by
        rw [he] at hfl
        have : 0 < xs.length * sz := Nat.mul_pos (by omega) hsz
        simp at hfl; omega
      obtain ⟨b, o, rfl, hr⟩ := hrow hne
      have hle : n < (n' : Int) := by omega
      have hrun : (Instr.indexAt t (.slice (some ⟨b, o, none⟩) n' c) (.int kd n)).run P C.w = .ok (.pointer (some ⟨b, o + n.toNat * sz, none⟩)) C.w := by
        have ht' : P.underlying t = some (.slice e) := ht
        simp [Instr.indexAt, run_underlying ht', asIntOf, h0, hle, hs.run, add_mk]
      refine ⟨_, by simp [execOp, hxx, hi.int_inv, hrun]; rfl, ?_⟩
      have hcl : (xs[n.toNat]).cells.length = sz := hu _ (by simp)
      refine .cptr _ b (o + n.toNat * sz) (fun j => f (n.toNat * sz + j)) (fun j hj => ?_) (fun j hj => ?_)
      · have hb := idx_lt hlt (show j < sz by omega)
        have := hr (n.toNat * sz + j) (by rw [hfl]; exact hb)
        rw [← Nat.add_assoc] at this
        exact this
      · have hb := idx_lt hlt (show j < sz by omega)
        have h1 := hrel (n.toNat * sz + j) (by rw [hfl]; exact hb)
        have h2 := flat_get hu n.toNat j hlt (by omega)
        rw [List.getElem?_eq_getElem (by rw [hfl]; exact hb), List.getElem?_eq_getElem hj] at h2
        injection h2 with h2
        rw [h2] at h1
        exact h1) k
theorem size_mk (l : List UInt8) : (⟨l.toArray⟩ : ByteArray).size = l.length := rfl
theorem AOp_index_str {t : Nat} {x y : Operand} (s : List UInt8) (kd : IntKind) (n : Int) (hx : st.opd x = .str s) (hy : st.opd y = .int kd n) (ht : P.underlying t = some .string)
    (h0 : 0 ≤ n) (hlt : n.toNat < s.length) (k : K (.int .u8 (s[n.toNat]).toNat) st.heap) : AOp P ro ⟨dst, .index t x y, ty, pos, after, guard⟩ K st :=
  AOp_pure _ (fun c => by simp) (fun C a _ _ hsr => by
    have hv := hsr.opd x
    have hi := hsr.opd y
    rw [hx] at hv
    rw [hy] at hi
    refine ⟨_, ?_, .int .u8 _⟩
    have hg : (⟨s.toArray⟩ : ByteArray)[n.toNat]? = some s[n.toNat] := by
      have : n.toNat < (⟨s.toArray⟩ : ByteArray).size := by rw [size_mk]; exact hlt
      rw [getElem?_pos (⟨s.toArray⟩ : ByteArray) n.toNat this]
      rfl
    simp [execOp, hv.str_inv, hi.int_inv, Instr.index, asIntOf, run_underlying ht, h0, hg]) k
theorem AOp_len_sl {x : Operand} {t : TypeId} (e : TypeId) (tk : Tok) (xs : List AV) (hx : st.opd x = .sl tk xs) (ht : SliceT P t e) (k : K (.int .i64 xs.length) st.heap) :
    AOp P ro ⟨dst, .call { callee := .builtin .len, args := #[x], argTypes := #[t] }, ty, pos, after, guard⟩ K st :=
  AOp_pure _ (fun c => by simp) (fun C a _ _ hsr => by
    have hv := hsr.opd x
    rw [hx] at hv
    generalize hxx : a.eval x = xx at hv
    cases hv with
    | sl _ _ ad n' c f hn hc hrow hrel htok =>
      have ht' : P.underlying t = some (.slice e) := ht
      subst hn
      exact ⟨_, by simp [execOp, resolve, invoke, builtin, hxx, Builtin.len_, run_underlying ht', goInt], .int .i64 _⟩) k
theorem AOp_len_str {x : Operand} {t : TypeId} (s : List UInt8) (hx : st.opd x = .str s) (ht : P.underlying t = some .string) (k : K (.int .i64 s.length) st.heap) :
    AOp P ro ⟨dst, .call { callee := .builtin .len, args := #[x], argTypes := #[t] }, ty, pos, after, guard⟩ K st :=
  AOp_pure _ (fun c => by simp) (fun C a _ _ hsr => by
    have hv := hsr.opd x
    rw [hx] at hv
    exact ⟨_, by simp [execOp, resolve, invoke, builtin, hv.str_inv, Builtin.len_, run_underlying ht, goInt, size_mk], .int .i64 _⟩) k
end Ab
namespace Ab
open Go
variable {P : Program} {ro : Option Nat} {Q : Exit → ASt → Prop} {st : ASt} {dst : Option Tmp} {ty : TypeId} {pos : String} {after : Array Edge} {guard : Option (Nat × Bool)} {K : AV → List AObj → Prop}
def intAV (k : IntKind) (a b : Int) : BinOp → Option AV
  | .add => some (.int k (k.wrap (a + b)))
  | .sub => some (.int k (k.wrap (a - b)))
  | .mul => some (.int k (k.wrap (a * b)))
  | .eql => some (.bool (decide (a = b)))
  | .neq => some (.bool (!decide (a = b)))
  | .lss => some (.bool (decide (a < b)))
  | .leq => some (.bool (decide (a ≤ b)))
  | .gtr => some (.bool (decide (b < a)))
  | .geq => some (.bool (decide (b ≤ a)))
  | _ => none
def strAV (a b : List UInt8) : BinOp → Option AV
  | .eql => some (.bool (decide (a = b)))
  | .neq => some (.bool (!decide (a = b)))
  | .lss => some (.bool (Op.bytesLess a b))
  | .leq => some (.bool (Op.bytesLess a b || decide (a = b)))
  | .gtr => some (.bool (!(Op.bytesLess a b || decide (a = b))))
  | .geq => some (.bool (!Op.bytesLess a b))
  | _ => none
theorem toList_mk (l : List UInt8) : (⟨l.toArray⟩ : ByteArray).toList = l := by rw [ByteArray.toList_eq]
theorem eqGuard_run {op : BinOp} {t : TypeId} {x y : Operand} {p q : Value} (hp : ∀ cs, p ≠ .agg cs) (hp' : p ≠ .nilIface) (w : World) : (eqGuard op t x y p q).run P w = .ok () w := by
  unfold eqGuard
  cases p <;> first | exact absurd rfl hp' | exact absurd rfl (hp _) | (cases op <;> rfl)
theorem bin_int_run {op : BinOp} {t : TypeId} {kd : IntKind} {a b : Int} {v : AV} (hv : intAV kd a b op = some v) (C : Ctx) (w : World) :
    ∃ x, (binOp op t (.int kd a) (.int kd b)).run P w = .ok x w ∧ VRel C v x := by
  cases op <;> simp [intAV] at hv <;> subst hv
  · exact ⟨_, by simp [binOp, Op.intArith], .int _ _⟩
  · exact ⟨_, by simp [binOp, Op.intArith], .int _ _⟩
  · exact ⟨_, by simp [binOp, Op.intArith], .int _ _⟩
  · exact ⟨.bool (decide (a = b)), by simp [binOp, Op.intCmp]; rfl, .bool _⟩
  · exact ⟨.bool (!decide (a = b)), by simp [binOp, Op.intCmp]; rfl, .bool _⟩
  · exact ⟨_, by simp [binOp, Op.intCmp], .bool _⟩
  · exact ⟨_, by simp [binOp, Op.intCmp], .bool _⟩
  · exact ⟨_, by simp [binOp, Op.intCmp], .bool _⟩
  · exact ⟨_, by simp [binOp, Op.intCmp], .bool _⟩
theorem bin_str_run {op : BinOp} {t : TypeId} {a b : List UInt8} {v : AV} (hv : strAV a b op = some v) (C : Ctx) (w : World) :
    ∃ x, (binOp op t (.string ⟨a.toArray⟩) (.string ⟨b.toArray⟩)).run P w = .ok x w ∧ VRel C v x := by
  have he : (a == b) = decide (a = b) := by rw [Bool.eq_iff_iff]; simp
  cases op <;> simp [strAV] at hv <;> subst hv
  all_goals exact ⟨_, by simp [binOp, Op.stringOp, toList_mk, he], .bool _⟩
theorem AOp_bin_int {op : BinOp} {x y : Operand} {t t' : TypeId} (kd : IntKind) (n m : Int) (v : AV) (hx : st.opd x = .int kd n) (hy : st.opd y = .int kd m) (hv : intAV kd n m op = some v)
    (k : K v st.heap) : AOp P ro ⟨dst, .binOp op t x y t', ty, pos, after, guard⟩ K st :=
  AOp_pure v (fun c => by simp) (fun C a _ _ hs => by
    have h1 := hs.opd x
    have h2 := hs.opd y
    rw [hx] at h1
    rw [hy] at h2
    obtain ⟨z, hz, hr⟩ := bin_int_run (P := P) (t := t) hv C C.w
    refine ⟨z, ?_, hr⟩
    simp only [execOp, h1.int_inv, h2.int_inv, Sem.run_bind, eqGuard_run (P := P) (p := .int kd n) (fun cs => by simp) (by simp), Result.andThen_ok, hz]
    rfl) k
theorem AOp_bin_str {op : BinOp} {x y : Operand} {t t' : TypeId} (s1 s2 : List UInt8) (v : AV) (hx : st.opd x = .str s1) (hy : st.opd y = .str s2) (hv : strAV s1 s2 op = some v)
    (k : K v st.heap) : AOp P ro ⟨dst, .binOp op t x y t', ty, pos, after, guard⟩ K st :=
  AOp_pure v (fun c => by simp) (fun C a _ _ hs => by
    have h1 := hs.opd x
    have h2 := hs.opd y
    rw [hx] at h1
    rw [hy] at h2
    obtain ⟨z, hz, hr⟩ := bin_str_run (P := P) (t := t) hv C C.w
    refine ⟨z, ?_, hr⟩
    simp only [execOp, h1.str_inv, h2.str_inv, Sem.run_bind, eqGuard_run (P := P) (p := .string ⟨s1.toArray⟩) (fun cs => by simp) (by simp), Result.andThen_ok, hz]
    rfl) k
theorem AOp_eql_bool {x y : Operand} {t t' : TypeId} (b1 b2 : Bool) (hx : st.opd x = .bool b1) (hy : st.opd y = .bool b2) (ht : P.underlying t = some .bool)
    (k : K (.bool (b1 == b2)) st.heap) : AOp P ro ⟨dst, .binOp .eql t x y t', ty, pos, after, guard⟩ K st :=
  AOp_pure _ (fun c => by simp) (fun C a _ _ hs => by
    have h1 := hs.opd x
    have h2 := hs.opd y
    rw [hx] at h1
    rw [hy] at h2
    refine ⟨_, ?_, .bool _⟩
    simp only [execOp, h1.bool_inv, h2.bool_inv, Sem.run_bind, eqGuard_run (P := P) (p := .bool b1) (fun cs => by simp) (by simp), Result.andThen_ok, run_eql_bool C.w t b1 b2 ht]
    rfl) k
theorem AOp_neq_bool {x y : Operand} {t t' : TypeId} (b1 b2 : Bool) (hx : st.opd x = .bool b1) (hy : st.opd y = .bool b2) (ht : P.underlying t = some .bool)
    (k : K (.bool (!(b1 == b2))) st.heap) : AOp P ro ⟨dst, .binOp .neq t x y t', ty, pos, after, guard⟩ K st :=
  AOp_pure _ (fun c => by simp) (fun C a _ _ hs => by
    have h1 := hs.opd x
    have h2 := hs.opd y
    rw [hx] at h1
    rw [hy] at h2
    refine ⟨_, ?_, .bool _⟩
    simp only [execOp, h1.bool_inv, h2.bool_inv, Sem.run_bind, eqGuard_run (P := P) (p := .bool b1) (fun cs => by simp) (by simp), Result.andThen_ok, run_neq_bool C.w t b1 b2 ht]
    rfl) k
theorem AOp_eql_nil {x : Operand} {t t' e : TypeId} (tk : Tok) (xs : List AV) (hx : st.opd x = .sl tk xs) (ht : SliceT P t e)
    (k : ∀ b : Bool, (flat xs ≠ [] → b = false) → K (.bool b) st.heap) : AOp P ro ⟨dst, .binOp .eql t x (.const (.slice none 0 0)) t', ty, pos, after, guard⟩ K st :=
  AOp_value (fun ρ => semAt_of (fun c => by simp) ro ρ) (fun C a hg hH hs => by
    have hv := hs.opd x
    rw [hx] at hv
    generalize hxx : a.eval x = xx at hv
    cases hv with
    | sl _ _ ad n c f hn hc hrow hrel htok =>
      have ht' : P.underlying t = some (.slice e) := ht
      refine ⟨C, .bool ad.isNone, .bool ad.isNone, ?_, hg, Ext.refl C, .bool _, ?_⟩
      · have hnil : a.eval (.const (.slice none 0 0)) = .slice none 0 0 := rfl
        simp only [execOp, hxx, hnil, Sem.run_bind, eqGuard_run (P := P) (p := .slice ad n c) (fun cs => by simp) (by simp), Result.andThen_ok]
        rw [Lib.run_eql_slice_nil C.w t e ad n c 0 0 ht']; rfl
      · rw [hH]
        refine k _ (fun hne => ?_)
        obtain ⟨b, o, rfl, _⟩ := hrow hne
        rfl)
theorem AOp_not {x : Operand} {t : TypeId} (b : Bool) (hx : st.opd x = .bool b) (k : K (.bool (!b)) st.heap) : AOp P ro ⟨dst, .unOp .not t x, ty, pos, after, guard⟩ K st :=
  AOp_pure _ (fun c => by simp) (fun C a _ _ hs => by
    have h1 := hs.opd x
    rw [hx] at h1
    exact ⟨_, by simp [execOp, h1.bool_inv, Op.unary], .bool _⟩) k
theorem AOp_neg {x : Operand} {t : TypeId} (kd : IntKind) (n : Int) (hx : st.opd x = .int kd n) (k : K (.int kd (kd.wrap (0 - n))) st.heap) : AOp P ro ⟨dst, .unOp .neg t x, ty, pos, after, guard⟩ K st :=
  AOp_pure _ (fun c => by simp) (fun C a _ _ hs => by
    have h1 := hs.opd x
    rw [hx] at h1
    exact ⟨_, by simp [execOp, h1.int_inv, Op.unary, Op.intArith], .int _ _⟩) k
theorem AOp_makeFunc {g : Nat} {caps : Array Operand} (k : K (.fn g (caps.toList.map st.opd)) st.heap) : AOp P ro ⟨dst, .makeFunc (.func g) #[] caps, ty, pos, after, guard⟩ K st :=
  AOp_pure _ (fun c => by simp) (fun C a _ _ hs => by
    refine ⟨.func (.func g) #[] (caps.map a.eval), by simp [execOp, Instr.makeFunc], ?_⟩
    refine .fn g _ _ (by simp) (fun i h => ?_)
    have := hs.opd (caps[i]'(by simpa using h))
    simpa using this) k
theorem AOp_box {t : TypeId} {x : Operand} (v : AV) (cs : List AV) (hx : st.opd x = v) (hcs : v.cells = cs) (hv : v.isCell = true ∨ ∃ cs, v = .agg cs) (hall : ∀ c, c ∈ cs → c.isCell = true)
    (k : K (.ptr st.heap.length 0) (st.heap ++ [.cells cs])) : AOp P ro ⟨dst, .box t x, ty, pos, after, guard⟩ K st :=
  AOp_value (fun ρ => semAt_of (fun c => by simp) ro ρ) fun C a hg hH hs => by
    have h1 := hs.opd x
    rw [hx] at h1
    obtain ⟨hsz, hrel⟩ := h1.cells hv
    obtain ⟨hg', he⟩ := step_new hg (.cells cs) (.cells (a.eval x).cells t) (C.w.alloc (.cells (a.eval x).cells t)) rfl ⟨rfl, rfl, rfl, by first | exact Nat.le_refl _ | exact Nat.le_add_right _ _⟩ (by simp [AObj.kind]) rfl (fun he => by
      refine ⟨(a.eval x).cells, t, ?_, ?_, ?_, ?_⟩
      · simp only [if_true]; exact heap_alloc_new _ _
      · exact Nat.le_of_eq (by rw [hsz, hcs])
      · simp; exact hg.fresh _ (Nat.le_refl _)
      · intro i hi hi'
        subst hcs
        exact ⟨(hrel i hi hi').ext he, hall _ (by simp)⟩)
    refine ⟨_, .pointer (some ⟨C.w.heap.size, 0, none⟩), .ptr st.heap.length 0, ?_, hg', he, ?_, ?_⟩
    · simp [execOp, Instr.box, newVar, newRow]
    · have := VRel.ptr (C := { S := C.S, μ := fun k => if k = C.H.length then C.w.heap.size else C.μ k, H := C.H ++ [AObj.cells cs], w := C.w.alloc (.cells (a.eval x).cells t) }) st.heap.length 0 ⟨.cells cs, by simp [hH], rfl⟩
      rw [← hH] at this ⊢
      simpa using this
    · rw [← hH] at k ⊢; exact k
def ZeroOf (P : Program) (t : TypeId) (zs : List Value) : Prop := (P.info? t).bind (fun i => i.zero.map (·.cells.toList)) = some zs
theorem ZeroOf.run {t : TypeId} {zs : List Value} (h : ZeroOf P t zs) (w : World) : ∃ z, (zeroValue t).run P w = .ok z w ∧ z.cells.toList = zs := by
  unfold ZeroOf at h
  cases hi : P.info? t with
  | none => simp [hi] at h
  | some i =>
    simp [hi] at h
    obtain ⟨z, hz, e⟩ := h
    exact ⟨z, by simp [zeroValue, typeInfo, hi, hz], e⟩
theorem AOp_alloc {t : TypeId} (zs : List Value) (hz : ZeroOf P t zs) (hall : ∀ c, c ∈ zs → (ofVal c).isCell = true)
    (k : K (.ptr st.heap.length 0) (st.heap ++ [.cells (zs.map ofVal)])) : AOp P ro ⟨dst, .alloc t, ty, pos, after, guard⟩ K st :=
  AOp_value (fun ρ => semAt_of (fun c => by simp) ro ρ) fun C a hg hH hs => by
    obtain ⟨z, hzr, hzc⟩ := hz.run C.w
    subst hzc
    obtain ⟨hg', he⟩ := step_new hg (.cells (z.cells.toList.map ofVal)) (.cells z.cells t) (C.w.alloc (.cells z.cells t)) rfl ⟨rfl, rfl, rfl, by first | exact Nat.le_refl _ | exact Nat.le_add_right _ _⟩ (by simp [AObj.kind]) rfl (fun he => by
      refine ⟨z.cells, t, ?_, ?_, ?_, ?_⟩
      · simp only [if_true]; exact heap_alloc_new _ _
      · simp
      · simp; exact hg.fresh _ (Nat.le_refl _)
      · intro i hi hi'
        have := VRel.ofVal (C := { S := C.S, μ := fun k => if k = C.H.length then C.w.heap.size else C.μ k, H := C.H ++ [AObj.cells (z.cells.toList.map ofVal)], w := C.w.alloc (.cells z.cells t) }) z.cells[i]
        refine ⟨by simpa using this, ?_⟩
        have := hall z.cells[i] (by simp)
        simpa using this)
    refine ⟨_, .pointer (some ⟨C.w.heap.size, 0, none⟩), .ptr st.heap.length 0, ?_, hg', he, ?_, ?_⟩
    · simp [execOp, Instr.alloc, newVar, newRow, hzr]
    · have := VRel.ptr (C := { S := C.S, μ := fun k => if k = C.H.length then C.w.heap.size else C.μ k, H := C.H ++ [AObj.cells (z.cells.toList.map ofVal)], w := C.w.alloc (.cells z.cells t) }) st.heap.length 0 ⟨.cells (z.cells.toList.map ofVal), by simp [hH], rfl⟩
      rw [← hH] at this ⊢
      simpa using this
    · rw [← hH] at k ⊢; exact k
def splice {α : Type} (vs : List α) (o : Nat) (cs : List α) : List α := vs.take o ++ cs ++ vs.drop (o + cs.length)
theorem splice_length {α : Type} {vs cs : List α} {o : Nat} (h : o + cs.length ≤ vs.length) : (splice vs o cs).length = vs.length := by
  unfold splice; simp; omega
theorem splice_get {α : Type} {vs cs : List α} {o : Nat} (h : o + cs.length ≤ vs.length) (i : Nat) :
    (splice vs o cs)[i]? = if i < o then vs[i]? else if i < o + cs.length then cs[i - o]? else vs[i]? := by
  unfold splice
  have hmin : min o vs.length = o := by omega
  split
  · rename_i h1
    rw [List.getElem?_append_left (by simp; omega), List.getElem?_append_left (by simp; omega), List.getElem?_take_of_lt h1]
  · rename_i h1
    split
    · rename_i h2
      rw [List.getElem?_append_left (by simp; omega), List.getElem?_append_right (by simp; omega), List.length_take, hmin]
    · rename_i h2
      rw [List.getElem?_append_right (by simp; omega), List.getElem?_drop, List.length_append, List.length_take, hmin]
      congr 1; omega
theorem setRow_heap_eq {w : World} {g : Nat} {c cc : Array Value} {e : TypeId} (h : w.heap[g]? = some (.cells c e (0, 0))) : (w.setRow g cc).heap = w.heap.setIfInBounds g (.cells cc e (0, 0)) := by
  apply Array.ext_getElem?
  intro i
  simp only [World.setRow, Array.getElem?_modify, Array.getElem?_setIfInBounds]
  by_cases hgi : g = i
  · subst hgi
    rw [if_pos rfl, if_pos rfl, h]
    have := (Array.getElem?_eq_some_iff.1 h).1
    simp [this]
  · rw [if_neg hgi, if_neg hgi]
theorem AOp_store {t : TypeId} {x y : Operand} (id o : Nat) (vs : List AV) (v : AV) (cs : List AV) (hx : st.opd x = .ptr id o) (hh : st.heap[id]? = some (.cells vs)) (hy : st.opd y = v) (hcs : v.cells = cs)
    (hv : v.isCell = true ∨ ∃ cs, v = .agg cs) (hall : ∀ c, c ∈ cs → c.isCell = true) (hsz : SzOf P t cs.length) (hle : o + cs.length ≤ vs.length)
    (k : K (.lit undef) (st.heap.set id (.cells (splice vs o cs)))) : AOp P ro ⟨dst, .store t x y, ty, pos, after, guard⟩ K st :=
  AOp_skipv (fun ρ => semAt_of (fun c => by simp) ro ρ) fun C a hg hH hs => by
    have h1 := hs.opd x
    have h2 := hs.opd y
    rw [hx] at h1
    rw [hy] at h2
    obtain ⟨hsz2, hrel⟩ := h2.cells hv
    rw [hcs] at hsz2
    have hrel' : ∀ i (h1 : i < cs.length) (h2 : i < (a.eval y).cells.size), VRel C cs[i] (a.eval y).cells[i] := by subst hcs; exact hrel
    generalize hxx : a.eval x = xx at h1
    generalize hyy : (a.eval y).cells = yc at hsz2 hrel'
    cases h1 with
    | ptr _ _ hk =>
      have hhC : C.H[id]? = some (.cells vs) := by rw [hH]; exact hh
      obtain ⟨c, e, g1, g2, g3, g4⟩ := hg.obj id _ hhC
      have hone : ∀ u, u ∈ yc.toList → u.oneCell' = true := fun u hu => by
        obtain ⟨i, hi, rfl⟩ := List.getElem_of_mem hu
        have hi' : i < yc.size := by simpa using hi
        have hi2 : i < cs.length := by omega
        have := hrel' i hi2 hi'
        simpa using this.oneCell (hall _ (by simp))
      have hst := run_storeCells_at P (C.μ id) o e yc.toList 0 c C.w g1 (by simp; omega) hone
      simp only [Nat.add_zero] at hst
      have hyl : yc.toList.length = cs.length := by simp; omega
      obtain ⟨c', hc'⟩ : ∃ c', c' = (splice c.toList o yc.toList).toArray := ⟨_, rfl⟩
      have hst : (storeCells ⟨C.μ id, o, none⟩ yc.toList).run P C.w = .ok () (C.w.setRow (C.μ id) c') := by rw [hc']; exact hst
      have hc'sz : c'.size = c.size := by rw [hc']; simp only [List.size_toArray]; rw [splice_length (by simp; omega)]; simp
      obtain ⟨hg', he⟩ := step_set hg id (.cells vs) (.cells (splice vs o cs)) (.cells c' e (0, 0)) (C.w.setRow (C.μ id) c') hhC rfl (by simp [AObj.kind]) (by simp [AObj.kind]) g3 (setRow_heap_eq g1) ⟨rfl, rfl, rfl, by first | exact Nat.le_refl _ | exact Nat.le_add_right _ _⟩
        (fun v es h => by cases h) rfl (fun he => by
          have hlt := hg.lt id _ hhC (by simp [AObj.kind])
          refine ⟨c', e, ?_, ?_, g3, ?_⟩
          · show (C.w.setRow (C.μ id) c').heap[C.μ id]? = _
            rw [setRow_heap_eq g1]; simp [hlt]
          · rw [hc'sz, splice_length hle]; exact g2
          · intro i hi hi'
            have hi0 : i < vs.length := by rw [← splice_length hle]; exact hi
            have e1 := splice_get hle i
            rw [List.getElem?_eq_getElem hi] at e1
            have e2 : c'[i]? = (splice c.toList o yc.toList)[i]? := by rw [hc']; simp
            rw [splice_get (by simp; omega) i, Array.getElem?_eq_getElem hi', hyl] at e2
            have hic : i < c.size := by omega
            rcases Nat.lt_or_ge i o with h | h
            · rw [if_pos h, List.getElem?_eq_getElem hi0] at e1
              rw [if_pos h] at e2
              simp [hic] at e1 e2
              rw [e1, e2]; exact ⟨(g4 i hi0 (by omega)).1.ext he, (g4 i hi0 (by omega)).2⟩
            · rw [if_neg (by omega)] at e1 e2
              rcases Nat.lt_or_ge i (o + cs.length) with h' | h'
              · have h3 : i - o < cs.length := by omega
                have h4 : i - o < yc.size := by omega
                rw [if_pos h', List.getElem?_eq_getElem h3] at e1
                rw [if_pos h'] at e2
                simp [h4] at e1 e2
                rw [e1, e2]; exact ⟨(hrel' (i - o) h3 h4).ext he, hall _ (by simp)⟩
              · rw [if_neg (by omega), List.getElem?_eq_getElem hi0] at e1
                rw [if_neg (by omega)] at e2
                simp [hic] at e1 e2
                rw [e1, e2]; exact ⟨(g4 i hi0 (by omega)).1.ext he, (g4 i hi0 (by omega)).2⟩)
      refine ⟨_, ?_, hg', he, ?_⟩
      · have hsz3 : yc.size = cs.length := hsz2
        simp [execOp, hxx, Instr.storeAt, Instr.sureAddr, storeVar, hsz.run, hyy, hsz3, hst]
      · rw [← hH] at k; exact k
end Ab
namespace Ab
open Go
variable {P : Program} {ro : Option Nat} {Q : Exit → ASt → Prop} {st : ASt} {dst : Option Tmp} {ty : TypeId} {pos : String} {after : Array Edge} {guard : Option (Nat × Bool)} {K : AV → List AObj → Prop}
def callOk (P : Program) (g : Nat) : Bool := match P.funcs[g]? with
  | some fn => fn.name != "runtime.NumGoroutine" && fn.body.isSome
  | none => false
theorem callFunc_run {g : Nat} (h : callOk P g = true) (vs : Array Value) (w : World) : (callFunc g vs).run P w = .ok (.enter g vs) w := by
  unfold callOk at h
  cases hf : P.funcs[g]? with
  | none => simp [hf] at h
  | some fn =>
    simp [hf] at h
    obtain ⟨h1, h2⟩ := h
    cases hb : fn.body with
    | none => simp [hb] at h2
    | some c => simp [callFunc, hf, h1, hb]
theorem AOp_call {f : Operand} {args : Array Operand} {ats : Array TypeId} (g : Nat) (caps avs : List AV) (hf : st.opd f = .fn g caps) (ha : args.toList.map st.opd = avs) (hok : callOk P g = true)
    (h : ACall P g (avs ++ caps) st.heap K) : AOp P ro ⟨dst, .call { callee := .value f, args := args, argTypes := ats }, ty, pos, after, guard⟩ K st := fun C a hg hH hs next Qc hn => by
  have hv := hs.opd f
  rw [hf] at hv
  generalize hff : a.eval f = ff at hv
  cases hv with
  | fn _ _ vs hsz hrel =>
    have hrun : (execOp a.eval ⟨dst, .call { callee := .value f, args := args, argTypes := ats }, ty, pos, after, guard⟩).run P C.w = .ok (.enter g (args.map a.eval ++ vs)) C.w := by
      simp [execOp, resolve, Deferred.ofValue, hff, invoke, callFunc_run hok]
    refine ⟨fun _ _ => trivial, ?_⟩
    show Oper.uponIn (F0 ro) 0 P _ a next Qc ((Oper.semAt ro a.eval _).run P C.w)
    rw [semAt_of (fun c => by simp) ro a.eval, hrun]
    refine ⟨fun hd => by simp [F0, Fence.wide] at hd, calls_F0 ?_⟩
    have hlen : args.size = avs.length := by rw [← ha]; simp
    refine (h C (args.map a.eval ++ vs) hg hH (by simp [hsz, hlen]) ?_).mono ?_
    · intro i h1 h2
      by_cases hi : i < avs.length
      · have hi' : i < args.size := by omega
        rw [List.getElem_append_left hi, Array.getElem_append_left (by simpa using hi')]
        have := hs.opd args[i]
        subst ha
        simpa using this
      · have e1 := List.getElem_append_right (as := avs) (bs := caps) (i := i) (h₂ := h1) (by omega)
        rw [e1, Array.getElem_append_right (by simp; omega)]
        have := hrel (i - avs.length) (by simp at h1; omega)
        simpa [hlen] using this
    · rintro e w' ⟨v, r, C', rfl, rfl, hg', he, hv', hK⟩
      exact hn C' v r hg' he hv' hK
mutual
def Scoped (n : Nat) : AV → Prop
  | .sl (.own k) xs => k < n ∧ ScopedL n xs
  | .sl _ xs => ScopedL n xs
  | .arr id _ _ => id < n
  | .gr id _ => id < n
  | .gptr id _ _ => id < n
  | .ptr id _ => id < n
  | .cptr cs => ScopedL n cs
  | .map id => id < n
  | .iter id => id < n
  | .fn _ caps => ScopedL n caps
  | .yld id => id < n
  | .agg cs => ScopedL n cs
  | .tup vs => ScopedL n vs
  | _ => True
def ScopedL (n : Nat) : List AV → Prop
  | [] => True
  | v :: vs => Scoped n v ∧ ScopedL n vs
end
theorem ScopedL_iff {n : Nat} : ∀ {l : List AV}, ScopedL n l ↔ ∀ v, v ∈ l → Scoped n v
  | [] => by simp [ScopedL]
  | v :: vs => by simp [ScopedL, ScopedL_iff (l := vs)]
theorem ScopedL_get {n : Nat} {l : List AV} : (∀ j (h : j < l.length), Scoped n l[j]) → ScopedL n l := fun h =>
  ScopedL_iff.2 fun v hv => by obtain ⟨j, hj, rfl⟩ := List.getElem_of_mem hv; exact h j hj
theorem ScopedL_cells {n : Nat} {v : AV} (h : Scoped n v) : ScopedL n v.cells := by
  cases v <;> simp [AV.cells, ScopedL] <;> (try exact h)
theorem ScopedL_flat {n : Nat} : ∀ {xs : List AV}, ScopedL n (flat xs) ↔ ∀ x, x ∈ xs → ScopedL n x.cells := by
  intro xs
  simp only [ScopedL_iff, flat, List.mem_flatMap]
  constructor
  · intro h x hx v hv; exact h v ⟨x, hx, hv⟩
  · rintro h v ⟨x, hx, hv⟩; exact h x hx v hv
theorem Scoped_of_cells {n : Nat} {x : AV} (h : ScopedL n x.cells) : Scoped n x := by
  cases x <;> simp [AV.cells, ScopedL] at h <;> (try exact h)
theorem OfKind.lt {C : Ctx} {k kd : Nat} (h : OfKind C k kd) : k < C.H.length := by
  obtain ⟨o, ho, _⟩ := h
  exact (List.getElem?_eq_some_iff.1 ho).1
theorem VRel.scop {C : Ctx} {v : AV} {x : Value} (h : VRel C v x) : Scoped C.H.length v := by
  induction h with
  | sl t xs a n c f hn hc hrow hrel htok ih =>
    have hx : ScopedL C.H.length xs := ScopedL_iff.2 fun x hx => Scoped_of_cells (ScopedL_flat.1 (ScopedL_get ih) x hx)
    cases t with
    | own k =>
      obtain ⟨e, sz, len, hk, _⟩ := htok
      exact ⟨(List.getElem?_eq_some_iff.1 hk).1, hx⟩
    | _ => simpa [Scoped] using hx
  | arr id off len c hk => exact hk.lt
  | gr id n a c hg => obtain ⟨e, sz, vs, hk, _⟩ := hg; exact (List.getElem?_eq_some_iff.1 hk).1
  | gptr id n off a hg => obtain ⟨e, sz, vs, hk, _⟩ := hg; exact (List.getElem?_eq_some_iff.1 hk).1
  | ptr id off hk => exact hk.lt
  | cptr cs b o f hrow hrel ih => simpa [Scoped] using ScopedL_get ih
  | map id hk => exact hk.lt
  | iter id hk => exact hk.lt
  | fn g caps vs hsz hrel ih => simpa [Scoped] using ScopedL_get ih
  | yld id hk => exact hk.lt
  | agg cs vs hsz hrel ih => simpa [Scoped] using ScopedL_get ih
  | tup cs vs hsz hrel ih => simpa [Scoped] using ScopedL_get ih
  | _ => simp [Scoped]
def Ctx.take (C : Ctx) (m : Nat) : Ctx := { C with H := C.H.take m }
theorem OfKind.take {C : Ctx} {k kd m : Nat} (h : OfKind C k kd) (hk : k < m) : OfKind (C.take m) k kd := by
  obtain ⟨o, ho, e⟩ := h
  exact ⟨o, by show (C.H.take m)[k]? = _; rw [List.getElem?_take_of_lt hk]; exact ho, e⟩
theorem VRel.take {C : Ctx} {m : Nat} {v : AV} {x : Value} (h : VRel C v x) (hs : Scoped m v) : VRel (C.take m) v x := by
  induction h with
  | junk v => exact .junk v
  | bool b => exact .bool b
  | int k n => exact .int k n
  | str s => exact .str s
  | sl t xs a n c f hn hc hrow hrel htok ih =>
    have hx : ScopedL m xs := by cases t <;> simp [Scoped] at hs <;> first | exact hs | exact hs.2
    have hfl : ScopedL m (flat xs) := ScopedL_flat.2 fun x hx' => ScopedL_cells (ScopedL_iff.1 hx x hx')
    refine .sl t xs a n c f hn hc hrow (fun j hj => ih j hj (ScopedL_iff.1 hfl _ (by simp))) ?_
    cases t with
    | own k =>
      obtain ⟨e, sz, len, hk, h1, h2⟩ := htok
      simp [Scoped] at hs
      exact ⟨e, sz, len, by show (C.H.take m)[k]? = _; rw [List.getElem?_take_of_lt hs.1]; exact hk, h1, h2⟩
    | _ => exact htok
  | arr id off len c hk hc => exact .arr (C := C.take m) id off len c (hk.take hs) hc
  | gr id n a c hg =>
    obtain ⟨e, sz, vs, hk, h1, h2⟩ := hg
    exact .gr (C := C.take m) id n a c ⟨e, sz, vs, by show (C.H.take m)[id]? = _; rw [List.getElem?_take_of_lt hs]; exact hk, h1, h2⟩
  | gptr id n off a hg =>
    obtain ⟨e, sz, vs, hk, h1, h2⟩ := hg
    exact .gptr (C := C.take m) id n off a ⟨e, sz, vs, by show (C.H.take m)[id]? = _; rw [List.getElem?_take_of_lt hs]; exact hk, h1, h2⟩
  | ptr id off hk => exact .ptr (C := C.take m) id off (hk.take hs)
  | cptr cs b o f hrow hrel ih => exact .cptr cs b o f hrow (fun j hj => ih j hj (ScopedL_iff.1 (by simpa [Scoped] using hs) _ (by simp)))
  | map id hk => exact .map (C := C.take m) id (hk.take hs)
  | iter id hk => exact .iter (C := C.take m) id (hk.take hs)
  | fn g caps vs hsz hrel ih => exact .fn g caps vs hsz (fun j hj => ih j hj (ScopedL_iff.1 (by simpa [Scoped] using hs) _ (by simp)))
  | yld id hk => exact .yld (C := C.take m) id (hk.take hs)
  | agg cs vs hsz hrel ih => exact .agg cs vs hsz (fun j hj => ih j hj (ScopedL_iff.1 (by simpa [Scoped] using hs) _ (by simp)))
  | tup cs vs hsz hrel ih => exact .tup cs vs hsz (fun j hj => ih j hj (ScopedL_iff.1 (by simpa [Scoped] using hs) _ (by simp)))
  | lit v => exact .lit v
def OScoped (n : Nat) : AObj → Prop
  | .cells vs => ScopedL n vs
  | .grow _ _ vs => ScopedL n vs
  | .map _ es => ∀ e, e ∈ es → Scoped n e.1 ∧ Scoped n e.2
  | .loop slots _ _ _ _ _ => ScopedL n slots
  | .iter m _ left last => m < n ∧ ∀ e, e ∈ left ∨ last = some e → Scoped n e.1 ∧ Scoped n e.2
  | _ => True
theorem Good.scop {C : Ctx} (hg : Good C) {k : Nat} {o : AObj} (h : C.H[k]? = some o) : OScoped C.H.length o := by
  have hr := hg.obj k o h
  cases o with
  | cells vs =>
    obtain ⟨c, e, _, h2, _, h4⟩ := hr
    exact ScopedL_get fun j hj => (h4 j hj (by omega)).1.scop
  | grow e sz vs =>
    obtain ⟨c, _, h2, _, h4⟩ := hr
    exact ScopedL_get fun j hj => (h4 j hj (by omega)).1.scop
  | map ver es =>
    obtain ⟨mes, clock, _, _, h3, h4, _⟩ := hr
    intro e he
    obtain ⟨j, hj, rfl⟩ := List.getElem_of_mem he
    exact ⟨(h4 j hj (by omega)).1.scop, (h4 j hj (by omega)).2.scop⟩
  | iter m ver left last =>
    obtain ⟨_, hm, hsc, _⟩ := hr
    exact ⟨hm.lt, fun e he => ⟨let ⟨x, hx⟩ := (hsc e he).1; hx.scop, let ⟨x, hx⟩ := (hsc e he).2; hx.scop⟩⟩
  | loop slots stt pend ps assign body =>
    obtain ⟨tmps, fn, dk, _, _, h3, h4⟩ := hr
    exact ScopedL_get fun j hj => (h4 j hj (by omega)).scop
  | _ => trivial
theorem ORel.take {C : Ctx} {m k : Nat} {o : AObj} (h : ORel C k o) (hs : OScoped m o) : ORel (C.take m) k o := by
  cases o with
  | cells vs =>
    obtain ⟨c, e, h1, h2, h3, h4⟩ := h
    exact ⟨c, e, h1, h2, h3, fun i hi hi' => ⟨(h4 i hi hi').1.take (ScopedL_iff.1 hs _ (by simp)), (h4 i hi hi').2⟩⟩
  | tok e sz len => exact h
  | grow e sz vs =>
    obtain ⟨c, h1, h2, h3, h4⟩ := h
    exact ⟨c, h1, h2, h3, fun i hi hi' => ⟨(h4 i hi hi').1.take (ScopedL_iff.1 hs _ (by simp)), (h4 i hi hi').2⟩⟩
  | map ver es =>
    obtain ⟨mes, clock, h1, h2, h3, h4, h5⟩ := h
    exact ⟨mes, clock, h1, h2, h3, fun i hi hi' => ⟨(h4 i hi hi').1.take (hs _ (by simp)).1, (h4 i hi hi').2.take (hs _ (by simp)).2⟩, h5⟩
  | iter m' ver left last =>
    obtain ⟨hS0, hm, hsc, hle, h⟩ := h
    obtain ⟨s1, s2⟩ := hs
    have hget : ∀ o, (C.H.take m)[m']? = some o → C.H[m']? = some o := fun o ho => by rw [List.getElem?_take_of_lt s1] at ho; exact ho
    refine ⟨hS0, hm.take s1, fun e he => ⟨let ⟨x, hx⟩ := (hsc e he).1; ⟨x, hx.take (s2 e he).1⟩, let ⟨x, hx⟩ := (hsc e he).2; ⟨x, hx.take (s2 e he).2⟩⟩, fun v es hv => hle v es (hget _ hv), fun es hes => ?_⟩
    obtain ⟨mes, clock, seen, g1, g2, lft, g3, g4, g5, g6⟩ := h es (hget _ hes)
    refine ⟨mes, clock, seen, g1, g2, lft, g3, g4, fun i hi hi' => ⟨(g5 i hi hi').1.take (s2 _ (.inl (by simp))).1, (g5 i hi hi').2.take (s2 _ (.inl (by simp))).2⟩, fun kv hkv => ?_⟩
    obtain ⟨e, e1, e2, e3, e4⟩ := g6 kv hkv
    exact ⟨e, e1, e2, e3.take (s2 kv (.inr hkv)).1, e4.take (s2 kv (.inr hkv)).2⟩
  | loop slots stt pend ps assign body =>
    obtain ⟨tmps, fn, dk, h1, h2, h3, h4⟩ := h
    exact ⟨tmps, fn, dk, h1, h2, h3, fun i hi hi' => (h4 i hi hi').take (ScopedL_iff.1 hs _ (by simp))⟩
  | _ => exact h
def stripTok (n : Nat) : Tok → Tok
  | .own k => if k < n then .own k else .none
  | t => t
mutual
def strip (n : Nat) : AV → AV
  | .sl t xs => .sl (stripTok n t) (stripL n xs)
  | .agg cs => .agg (stripL n cs)
  | .tup cs => .tup (stripL n cs)
  | .cptr cs => .cptr (stripL n cs)
  | .fn g cs => .fn g (stripL n cs)
  | v => v
def stripL (n : Nat) : List AV → List AV
  | [] => []
  | v :: vs => strip n v :: stripL n vs
end
theorem stripL_eq {n : Nat} : ∀ l : List AV, stripL n l = l.map (strip n)
  | [] => rfl
  | v :: vs => by simp [stripL, stripL_eq vs]
theorem strip_cells {n : Nat} (v : AV) : (strip n v).cells = stripL n v.cells := by
  cases v <;> simp [strip, AV.cells, stripL]
theorem strip_flat {n : Nat} (xs : List AV) : flat (stripL n xs) = stripL n (flat xs) := by
  rw [stripL_eq, stripL_eq]
  unfold flat
  rw [List.map_flatMap, List.flatMap_map]
  congr 1
  funext v
  rw [strip_cells, stripL_eq]
theorem VRel.strip {C : Ctx} {n : Nat} {v : AV} {x : Value} (h : VRel C v x) : VRel C (Ab.strip n v) x := by
  induction h with
  | sl t xs a m c f hn hc hrow hrel htok ih =>
    have hl : (flat (stripL n xs)).length = (flat xs).length := by rw [strip_flat, stripL_eq]; simp
    have hne : flat (stripL n xs) ≠ [] → flat xs ≠ [] := fun h he => h (by rw [strip_flat, he]; rfl)
    refine .sl _ _ a m c f (by rw [stripL_eq]; simpa using hn) hc (fun h => by rw [hl]; exact hrow (hne h)) (fun j hj => ?_) ?_
    · have hj' : j < (flat xs).length := by rw [← hl]; exact hj
      have := ih j hj'
      have e : (flat (stripL n xs))[j] = Ab.strip n (flat xs)[j] := by
        have : flat (stripL n xs) = (flat xs).map (Ab.strip n) := by rw [strip_flat, stripL_eq]
        simp [this]
      rw [e]; exact this
    · cases t with
      | own k => by_cases hk : k < n
                 · simpa [stripTok, hk] using htok
                 · simp [stripTok, hk, TokOk]
      | _ => exact htok
  | agg cs vs hsz hrel ih => exact .agg _ vs (by rw [stripL_eq]; simpa using hsz) (fun i hi => by
      have hi' : i < cs.length := by rw [stripL_eq] at hi; simpa using hi
      have e : (stripL n cs)[i] = Ab.strip n cs[i] := by simp [stripL_eq]
      rw [e]; exact ih i hi')
  | tup cs vs hsz hrel ih => exact .tup _ vs (by rw [stripL_eq]; simpa using hsz) (fun i hi => by
      have hi' : i < cs.length := by rw [stripL_eq] at hi; simpa using hi
      have e : (stripL n cs)[i] = Ab.strip n cs[i] := by simp [stripL_eq]
      rw [e]; exact ih i hi')
  | fn g cs vs hsz hrel ih => exact .fn g _ vs (by rw [stripL_eq]; simpa using hsz) (fun i hi => by
      have hi' : i < cs.length := by rw [stripL_eq] at hi; simpa using hi
      have e : (stripL n cs)[i] = Ab.strip n cs[i] := by simp [stripL_eq]
      rw [e]; exact ih i hi')
  | cptr cs b o f hrow hrel ih => exact .cptr _ b o f (by rw [stripL_eq]; simpa using hrow) (fun j hj => by
      have hj' : j < cs.length := by rw [stripL_eq] at hj; simpa using hj
      have e : (stripL n cs)[j] = Ab.strip n cs[j] := by simp [stripL_eq]
      rw [e]; exact ih j hj')
  | junk v => exact .junk v
  | bool b => exact .bool b
  | int k m => exact .int k m
  | str s => exact .str s
  | arr id off len c hk hc => exact .arr id off len c hk hc
  | gr id n a c hg => exact .gr id n a c hg
  | gptr id n off a hg => exact .gptr id n off a hg
  | ptr id off hk => exact .ptr id off hk
  | map id hk => exact .map id hk
  | iter id hk => exact .iter id hk
  | yld id hk => exact .yld id hk
  | lit v => exact .lit v
def ResV (P : Program) (st : ASt) : ResultVar → AV → Prop
  | .tmp t, r => r = st.opd (.tmp t)
  | .cell t ty, r => ∃ n id o vs, st.opd (.tmp t) = .ptr id o ∧ st.heap[id]? = some (.cells vs) ∧ SzOf P ty n ∧ o + n ≤ vs.length ∧
      ((AggT P ty true ∧ r = .agg ((vs.drop o).take n)) ∨ (AggT P ty false ∧ 0 < n ∧ vs[o]? = some r))
def ResVs (P : Program) (st : ASt) : List ResultVar → List AV → Prop
  | [], [] => True
  | x :: xs, r :: rs => ResV P st x r ∧ ResVs P st xs rs
  | _, _ => False
def ResOk (P : Program) (fn : Func) (st : ASt) (r : AV) : Prop :=
  match fn.results.toList with
  | [] => r = .tup []
  | [.tmp t] => r = st.opd (.tmp t)
  | [x] => ResV P st x r
  | l => ∃ rs, r = .tup rs ∧ ResVs P st l rs
def OutOk (H H1 : List AObj) (m : Nat) : Prop := m ≤ H1.length ∧ H.length ≤ m ∧ ∀ k, k < m → (k < H.length ∧ H1[k]? = H[k]?) ∨ ∃ o, H1[k]? = some o ∧ OScoped m o
theorem Scoped.mono {n m : Nat} (h : n ≤ m) {v : AV} {C : Ctx} (hn : C.H.length = n) {x : Value} (hv : VRel C v x) : Scoped n v := hn ▸ hv.scop
mutual
theorem scoped_le {n m : Nat} (h : n ≤ m) : ∀ v : AV, Scoped n v → Scoped m v
  | .sl (.own k) xs => by
    simp only [Scoped]
    exact fun ⟨a, b⟩ => ⟨Nat.lt_of_lt_of_le a h, scopedL_le h xs b⟩
  | .sl .none xs => by simp only [Scoped]; exact scopedL_le h xs
  | .sl .zero xs => by simp only [Scoped]; exact scopedL_le h xs
  | .arr id _ _ => by simp only [Scoped]; exact fun a => Nat.lt_of_lt_of_le a h
  | .gr id _ => by simp only [Scoped]; exact fun a => Nat.lt_of_lt_of_le a h
  | .gptr id _ _ => by simp only [Scoped]; exact fun a => Nat.lt_of_lt_of_le a h
  | .ptr id _ => by simp only [Scoped]; exact fun a => Nat.lt_of_lt_of_le a h
  | .cptr cs => by simp only [Scoped]; exact scopedL_le h cs
  | .map id => by simp only [Scoped]; exact fun a => Nat.lt_of_lt_of_le a h
  | .iter id => by simp only [Scoped]; exact fun a => Nat.lt_of_lt_of_le a h
  | .fn _ cs => by simp only [Scoped]; exact scopedL_le h cs
  | .yld id => by simp only [Scoped]; exact fun a => Nat.lt_of_lt_of_le a h
  | .agg cs => by simp only [Scoped]; exact scopedL_le h cs
  | .tup cs => by simp only [Scoped]; exact scopedL_le h cs
  | .junk => fun _ => by simp [Scoped]
  | .bool _ => fun _ => by simp [Scoped]
  | .int _ _ => fun _ => by simp [Scoped]
  | .str _ => fun _ => by simp [Scoped]
  | .lit _ => fun _ => by simp [Scoped]
theorem scopedL_le {n m : Nat} (h : n ≤ m) : ∀ l : List AV, ScopedL n l → ScopedL m l
  | [] => fun _ => by simp [ScopedL]
  | v :: vs => by
    simp only [ScopedL]
    exact fun ⟨a, b⟩ => ⟨scoped_le h v a, scopedL_le h vs b⟩
end
theorem OScoped.le {n m : Nat} (h : n ≤ m) {o : AObj} (ho : OScoped n o) : OScoped m o := by
  cases o with
  | cells vs => exact scopedL_le h _ ho
  | grow e sz vs => exact scopedL_le h _ ho
  | map ver es => exact fun e he => ⟨scoped_le h _ (ho e he).1, scoped_le h _ (ho e he).2⟩
  | loop slots stt pend ps assign body => exact scopedL_le h _ ho
  | iter m' ver left last => exact ⟨Nat.lt_of_lt_of_le ho.1 h, fun e he => ⟨scoped_le h _ (ho.2 e he).1, scoped_le h _ (ho.2 e he).2⟩⟩
  | _ => trivial
theorem Good.take {C0 C : Ctx} (hg0 : Good C0) (hg : Good C) {m : Nat} (ho : OutOk C0.H C.H m) : Good (C.take m) := by
  obtain ⟨h1, h2, h3⟩ := ho
  have hget : ∀ k o, (C.H.take m)[k]? = some o → k < m ∧ C.H[k]? = some o := fun k o h => by
    rcases Nat.lt_or_ge k m with h' | h'
    · rw [List.getElem?_take_of_lt h'] at h; exact ⟨h', h⟩
    · rw [List.getElem?_eq_none (by simp; omega)] at h; cases h
  refine ⟨fun k o h => ?_, fun k o h => hg.lt k o (hget k o h).2, fun j k o o' a b => hg.inj j k o o' (hget j o a).2 (hget k o' b).2, hg.fresh, fun ht => ⟨(hg.tab ht).1, fun k o h => (hg.tab ht).2 k o (hget k o h).2⟩⟩
  obtain ⟨hk, hh⟩ := hget k o h
  refine (hg.obj k o hh).take ?_
  rcases h3 k hk with ⟨hl, he⟩ | ⟨o', ho', hs⟩
  · exact (hg0.scop (by rw [← he]; exact hh)).le h2
  · rw [hh] at ho'; injection ho' with ho'; subst ho'; exact hs
theorem Ext.take {C0 C : Ctx} (he : Ext C0 C) {m : Nat} (hm : C0.H.length ≤ m) : Ext C0 (C.take m) := by
  have hlt : ∀ k (o : AObj), C0.H[k]? = some o → k < m := fun k o h => by
    have := (List.getElem?_eq_some_iff.1 h).1; omega
  have hget : ∀ k o, (C.H.take m)[k]? = some o → C.H[k]? = some o := fun k o h => by
    rcases Nat.lt_or_ge k m with h' | h'
    · rw [List.getElem?_take_of_lt h'] at h; exact h
    · rw [List.getElem?_eq_none (by simp; omega)] at h; cases h
  refine ⟨he.os, he.tape, he.output, he.drawn, he.size, he.up, he.cell, he.frame, fun k o h => he.prov k o (hget k o h), fun k o h => ?_, he.stay, fun k e sz len h => ?_, fun k ver es h => ?_, fun k e sz vs h => ?_⟩
  · obtain ⟨o', h1, h2⟩ := he.kind k o h
    exact ⟨o', by show (C.H.take m)[k]? = _; rw [List.getElem?_take_of_lt (hlt k o h)]; exact h1, h2⟩
  · obtain ⟨l, h1, h2⟩ := he.tok k e sz len h
    exact ⟨l, by show (C.H.take m)[k]? = _; rw [List.getElem?_take_of_lt (hlt k _ h)]; exact h1, h2⟩
  · obtain ⟨v, s, h1, h2⟩ := he.map k ver es h
    exact ⟨v, s, by show (C.H.take m)[k]? = _; rw [List.getElem?_take_of_lt (hlt k _ h)]; exact h1, h2⟩
  · obtain ⟨l, h1, h2⟩ := he.grow k e sz vs h
    exact ⟨l, by show (C.H.take m)[k]? = _; rw [List.getElem?_take_of_lt (hlt k _ h)]; exact h1, h2⟩
def resRun (tmps : Array Value) : ResultVar → Sem Value
  | .tmp t => pure (tmps.getD t undef)
  | .cell a t => do loadVar t (← asAddr (tmps.getD a undef))
theorem resV_run {x : ResultVar} {r : AV} (hr : ResV P st x r) {C : Ctx} {a : Act} (hg : Good C) (hH : C.H = st.heap) (hs : SRel C st a) : ∃ v, (resRun a.tmps x).run P C.w = .ok v C.w ∧ VRel C r v := by
  cases x with
  | tmp t => rw [show r = st.opd (.tmp t) from hr]; exact ⟨a.eval (.tmp t), rfl, hs.opd _⟩
  | cell t ty =>
    obtain ⟨n, id, o, vs, hx, hh, hsz, hle, hv⟩ := hr
    have hp := hs.opd (.tmp t)
    rw [hx] at hp
    have he : a.eval (.tmp t) = a.tmps.getD t undef := rfl
    generalize hxx : a.eval (.tmp t) = xx at hp
    rw [hxx] at he
    cases hp with
    | ptr _ _ hk =>
      obtain ⟨c, e, h1, h2, h3, h4⟩ := hg.obj id _ (by rw [hH]; exact hh)
      obtain ⟨f, hf⟩ : ∃ f : Nat → Value, ∀ j (h : o + j < c.size), f j = c[o + j] := ⟨fun j => c.getD (o + j) undef, fun j h => by simp [h]⟩
      rcases hv with ⟨ha, rfl⟩ | ⟨ha, hn, hv0⟩
      · have hl := loadVar_run hsz ha C.w (C.μ id) o f (fun j hj => by
          have : o + j < c.size := by omega
          simp [World.cell?, h1, this, hf j this]) (by simp)
        refine ⟨_, by simp [resRun, ← he, asAddr, hl]; rfl, ?_⟩
        have hlen : ((vs.drop o).take n).length = n := by simp; omega
        have := VRel.aggRange (C := C) (cs := (vs.drop o).take n) (f := f) (fun j hj => by
          have hj' : j < n := by omega
          have hq : o + j < c.size := by omega
          have := (h4 (o + j) (by omega) hq).1
          rw [hf j hq]
          simpa using this)
        rwa [hlen] at this
      · have hl := loadVar_run hsz ha C.w (C.μ id) o f (fun j hj => by
          have : o + j < c.size := by omega
          simp [World.cell?, h1, this, hf j this]) (fun _ => hn)
        have hq : o < c.size := by omega
        refine ⟨f 0, by simp [resRun, ← he, asAddr, hl], ?_⟩
        have h5 := (h4 o (by omega) hq).1
        have : vs[o] = r := by have := List.getElem?_eq_some_iff.1 hv0; exact this.2
        rw [this] at h5
        rw [hf 0 (by omega)]
        exact h5
theorem resVs_run {C : Ctx} {a : Act} (hg : Good C) (hH : C.H = st.heap) (hs : SRel C st a) : ∀ (l : List ResultVar) (rs : List AV), ResVs P st l rs → ∃ vs : List Value, (l.mapM (resRun a.tmps)).run P C.w = .ok vs C.w ∧ vs.length = l.length ∧ rs.length = l.length ∧
    ∀ i (h : i < rs.length) (h' : i < vs.length), VRel C rs[i] vs[i]
  | [], [], _ => ⟨[], rfl, rfl, rfl, fun i h => absurd h (by simp)⟩
  | [], _ :: _, h => h.elim
  | _ :: _, [], h => h.elim
  | x :: l, r :: rs, h => by
    obtain ⟨v, h1, h2⟩ := resV_run h.1 hg hH hs
    obtain ⟨vs, h3, h4, h5, h6⟩ := resVs_run hg hH hs l rs h.2
    refine ⟨v :: vs, ?_, by simp [h4], by simp [h5], fun i a b => ?_⟩
    · simp only [List.mapM_cons, Sem.run_bind, h1, Result.andThen_ok, h3, Sem.run_pure]
    · cases i with
      | zero => exact h2
      | succ i => simpa using h6 i (by simpa using a) (by simpa using b)
theorem results_run {fn : Func} {r : AV} (hr : ResOk P fn st r) {C : Ctx} {a : Act} (hg : Good C) (hH : C.H = st.heap) (hs : SRel C st a) : ∃ v, (results fn a.tmps).run P C.w = .ok v C.w ∧ VRel C r v := by
  obtain ⟨name, origin, targs, params, rts, nfree, ntmps, res, body, norace, ours, file, endLine, litNo, met, tn⟩ := fn
  obtain ⟨l⟩ := res
  unfold ResOk at hr
  simp only at hr
  have hrun : ∀ vs : List Value, (l.mapM (resRun a.tmps)).run P C.w = .ok vs C.w → (results ⟨name, origin, targs, params, rts, nfree, ntmps, ⟨l⟩, body, norace, ours, file, endLine, litNo, met, tn⟩ a.tmps).run P C.w =
      .ok (if h : vs.toArray.size = 1 then vs.toArray[0] else .tuple vs.toArray) C.w := fun vs hvs => by
    unfold results
    simp only [List.mapM_toArray, Sem.run_bind, Sem.run_map]
    change (((Sem.run P (List.mapM (resRun a.tmps) l) C.w).andThen _).andThen _) = _
    rw [hvs]
    rfl
  split at hr
  · subst hr
    exact ⟨.tuple #[], by rw [hrun [] rfl]; rfl, .tup [] #[] rfl (fun i h => absurd h (by simp))⟩
  · rename_i t
    subst hr
    exact ⟨a.eval (.tmp t), by rw [hrun [a.eval (.tmp t)] rfl]; rfl, hs.opd _⟩
  · rename_i x _
    obtain ⟨v, h1, h2⟩ := resV_run hr hg hH hs
    exact ⟨v, by rw [hrun [v] (by simp only [List.mapM_cons, List.mapM_nil, Sem.run_bind, h1, Result.andThen_ok, Sem.run_pure])]; rfl, h2⟩
  · rename_i h0 h1 h2
    obtain ⟨rs, rfl, hr⟩ := hr
    obtain ⟨vs, e1, e2, e3, e4⟩ := resVs_run hg hH hs l rs hr
    refine ⟨.tuple vs.toArray, ?_, .tup _ _ (by simp; omega) (fun i hi => by simpa using e4 i hi (by omega))⟩
    rw [hrun vs e1]
    have : vs.toArray.size ≠ 1 := by
      intro h
      simp at h
      rw [e2] at h
      obtain ⟨x, rfl⟩ := List.length_eq_one_iff.1 h
      exact h2 x rfl
    rw [dif_neg this]
theorem ACall_intro {f : Nat} {fn : Func} {c : Code} {args : List AV} {H : List AObj} {R : AV → List AObj → Prop} (m : Nat) (hf : P.funcs[f]? = some fn) (hb : fn.body = some c)
    (h : AW P none H c (fun e st' => (e = .normal ∨ e = .ret) ∧ ∃ r, ResOk P fn st' r ∧ OutOk H st'.heap m ∧ Scoped m (strip m r) ∧ R (strip m r) (st'.heap.take m))
      { slots := args ++ List.replicate (fn.ntmps - args.length) (.lit undef), heap := H }) : ACall P f args H R := by
  intro C vs hg hH hsz hv
  refine ACall_of_AW (P := P) hf hb ?_ C vs hg hH hsz hv (R := R)
  refine AW_mono h ?_
  rintro e st' ⟨he, r, hr, ho, hsc, hR⟩
  have fin : ∀ C1 a, Good C1 → C1.H = st'.heap → SRel C1 st' a → ∃ v r C', (results fn a.tmps).run P C1.w = .ok v C1.w ∧ C'.w = C1.w ∧ Good C' ∧ (∀ C0, Ext C0 C1 → C0.H = H → Good C0 → Ext C0 C') ∧ VRel C' r v ∧ R r C'.H := by
    intro C1 a hg1 hH1 hs1
    obtain ⟨v, hrun, hrel⟩ := results_run hr hg1 hH1 hs1
    have ho' : OutOk C.H C1.H m := by rw [hH, hH1]; exact ho
    refine ⟨v, strip m r, C1.take m, hrun, rfl, Good.take hg hg1 ho', fun C0 hx h0 _ => hx.take (by rw [h0]; exact ho.2.1), hrel.strip.take hsc, ?_⟩
    show R (strip m r) (C1.H.take m)
    rw [hH1]; exact hR
  rcases he with rfl | rfl
  · exact fin
  · exact fin
inductive SlotsOk (m : Nat) : List AV → List AV → Prop
  | nil : SlotsOk m [] []
  | junk {v : AV} {l l' : List AV} (h : SlotsOk m l l') : SlotsOk m (v :: l) (.junk :: l')
  | same {v : AV} {l l' : List AV} (hv : Scoped m v) (h : SlotsOk m l l') : SlotsOk m (v :: l) (v :: l')
  | strip {v v' : AV} {l l' : List AV} (hv : Scoped m v') (he : v' = Ab.strip m v) (h : SlotsOk m l l') : SlotsOk m (v :: l) (v' :: l')
  | forget {v v' : AV} {l l' : List AV} (hv : Scoped m v') (he : ∀ C x, VRel C v x → VRel C v' x) (h : SlotsOk m l l') : SlotsOk m (v :: l) (v' :: l')
def Weakens (H0 : List AObj) (st st' : ASt) : Prop :=
  ∃ m, st'.heap = st.heap.take m ∧ OutOk H0 st.heap m ∧ SlotsOk m st.slots st'.slots
theorem SlotsOk.length {m : Nat} {l l' : List AV} (h : SlotsOk m l l') : l.length = l'.length := by
  induction h <;> simp_all
theorem SlotsOk.rel {m : Nat} {l l' : List AV} (h : SlotsOk m l l') {C : Ctx} : ∀ i (h1 : i < l.length) (h2 : i < l'.length) (x : Value), VRel C l[i] x → VRel (C.take m) l'[i] x := by
  induction h with
  | nil => intro i h1; simp at h1
  | junk h ih =>
    intro i h1 h2 x hx
    cases i with
    | zero => exact .junk x
    | succ i => exact ih i (by simpa using h1) (by simpa using h2) x (by simpa using hx)
  | same hv h ih =>
    intro i h1 h2 x hx
    cases i with
    | zero => exact VRel.take (by simpa using hx) hv
    | succ i => exact ih i (by simpa using h1) (by simpa using h2) x (by simpa using hx)
  | @strip v0 v1 l0 l1 hv he h ih =>
    intro i h1 h2 x hx
    cases i with
    | zero =>
      have h3 : VRel C v0 x := by simpa using hx
      have := h3.strip (n := m)
      rw [← he] at this
      exact this.take hv
    | succ i => exact ih i (by simpa using h1) (by simpa using h2) x (by simpa using hx)
  | forget hv he h ih =>
    intro i h1 h2 x hx
    cases i with
    | zero => exact VRel.take (he _ _ (by simpa using hx)) hv
    | succ i => exact ih i (by simpa using h1) (by simpa using h2) x (by simpa using hx)
theorem DefOk.take {C0 C : Ctx} {a : Act} {m : Nat} (h : DefOk C0 C a) : DefOk C0 (C.take m) a := by
  obtain ⟨D, h1, h2, h3⟩ := h
  refine ⟨D, h1, h2, fun d hd => ⟨(h3 d hd).1, (h3 d hd).2.1, (h3 d hd).2.2.1, fun k o hk ho => (h3 d hd).2.2.2 k o ?_ ho⟩⟩
  have hk' : (C.H.take m)[k]? = some o := hk
  rcases Nat.lt_or_ge k m with h' | h'
  · rw [List.getElem?_take_of_lt h'] at hk'; exact hk'
  · rw [List.getElem?_eq_none (by simp; omega)] at hk'; cases hk'
theorem AW_weaken {P : Program} {ro : Option Nat} {H0 : List AObj} {c : Code} {Q : Exit → ASt → Prop} {st st' : ASt} (hw : Weakens H0 st st') (h : AW P ro H0 c Q st') : AW P ro H0 c Q st := by
  obtain ⟨m, hh, ho, hsl⟩ := hw
  intro C0 C a h0 hg0 hx hg hH hs
  have hgt : Good (C.take m) := Good.take hg0 hg (by rw [h0, hH]; exact ho)
  have hs' : SD C0 (C.take m) st' a := by
    refine ⟨⟨by rw [hs.size, hsl.length], fun i h1 h2 => ?_⟩, hs.defok.take⟩
    exact hsl.rel i (by rw [hsl.length]; exact h1) h1 _ (hs.slot i (by rw [hsl.length]; exact h1) h2)
  have := h C0 (C.take m) a h0 hg0 (hx.take (by rw [h0]; exact ho.2.1)) hgt (by show C.H.take m = _; rw [hH, hh]) hs'
  exact this
theorem SlotsOk.eq {m : Nat} {v v' : AV} {l l' : List AV} (he : v = v') (hv : Scoped m v') (h : SlotsOk m l l') : SlotsOk m (v :: l) (v' :: l') := by
  subst he; exact .same hv h
section
variable {P : Program} {ro : Option Nat} {H0 : List AObj} {Q : Exit → ASt → Prop} {st : ASt}
theorem AOps_split {ops : Array Oper} {l : List Oper} (d : Nat) (b : Bool) (hb : st.slots.getD d (.lit undef) = .bool b)
    (ht : b = true → AOps P ro H0 ops Q l { st with slots := st.slots.set d (.bool true) }) (hf : b = false → AOps P ro H0 ops Q l { st with slots := st.slots.set d (.bool false) }) :
    AOps P ro H0 ops Q l st := by
  have key : ∀ v, st.slots.getD d (.lit undef) = .bool v → { st with slots := st.slots.set d (.bool v) } = st := by
    intro v hv
    cases st with
    | mk slots heap =>
      simp only [ASt.mk.injEq, and_true]
      apply List.ext_getElem?
      intro i
      rw [List.getElem?_set]
      by_cases hd : d = i
      · subst hd
        by_cases hl : d < slots.length
        · simp only [hl, if_true]
          simp only [List.getD, List.getElem?_eq_getElem hl, Option.getD_some] at hv
          rw [List.getElem?_eq_getElem hl, hv]
        · simp [hl]
      · simp [hd]
  cases b with
  | true => have := ht rfl; rwa [key true hb] at this
  | false => have := hf rfl; rwa [key false hb] at this
def keepM : List Bool → List AV → List AV
  | true :: bs, v :: vs => v :: keepM bs vs
  | false :: bs, _ :: vs => .junk :: keepM bs vs
  | _, _ => []
def updL : List (Nat × AV) → List AV → List AV
  | [], l => l
  | (i, v) :: us, l => updL us (l.set i v)
def mkS (mask : List Bool) (us : List (Nat × AV)) (heap : List AObj) (st : ASt) : ASt := ⟨updL us (keepM mask st.slots), heap⟩
def loopK (H0 : List AObj) {α : Type} (S : α → ASt) (inv : α → Prop) (μ : α → Nat) (x : α) (Q : Exit → ASt → Prop) : Exit → ASt → Prop :=
  thenK (fun st' => ∃ y, inv y ∧ Weakens H0 st' (S y) ∧ μ y < μ x) Q
theorem AW_loopR {c : Code} {α : Type} (mask : List Bool) (upd : α → List (Nat × AV)) (hp : α → List AObj) (inv : α → Prop) (μ : α → Nat) (x0 : α) (hi : inv x0)
    (hw : Weakens H0 st (mkS mask (upd x0) (hp x0) st))
    (round : ∀ x, inv x → AW P ro H0 c (loopK H0 (fun x => mkS mask (upd x) (hp x) st) inv μ x Q) (mkS mask (upd x) (hp x) st)) : AW P ro H0 (.loop c) Q st :=
  AW_loop (fun x st' => inv x ∧ Weakens H0 st' (mkS mask (upd x) (hp x) st)) μ x0 ⟨hi, hw⟩ (fun x st' hI => AW_mono (AW_weaken hI.2 (round x hI.1)) (fun e st2 hq => by
    cases e with
    | normal => obtain ⟨y, a, b, c⟩ := hq; exact ⟨y, ⟨a, b⟩, c⟩
    | _ => exact hq))
end
def Forget (v v' : AV) : Prop := ∀ C x, VRel C v x → VRel C v' x
theorem Forget.refl (v : AV) : Forget v v := fun _ _ h => h
theorem Forget.tok (t : Tok) (xs : List AV) : Forget (.sl t xs) (.sl .none xs) := fun C x h => by
  cases h with
  | sl _ _ a n c f hn hc hrow hrel htok => exact .sl .none xs a n c f hn hc hrow hrel trivial
theorem SlotsOk.tok {m : Nat} {t : Tok} {xs ys : List AV} {l l' : List AV} (he : xs = ys) (hv : Scoped m (.sl .none ys)) (h : SlotsOk m l l') : SlotsOk m (.sl t xs :: l) (.sl .none ys :: l') := by
  subst he; exact .forget hv (Forget.tok t xs) h
def ForgetL : List AV → List AV → Prop
  | [], [] => True
  | v :: vs, v' :: vs' => Forget v v' ∧ ForgetL vs vs'
  | _, _ => False
theorem ForgetL.spec : ∀ {l l' : List AV}, ForgetL l l' → l.length = l'.length ∧ ∀ i (h : i < l.length) (h' : i < l'.length), Forget l[i] l'[i]
  | [], [], _ => ⟨rfl, fun i h => absurd h (by simp)⟩
  | v :: vs, v' :: vs', h => by
    obtain ⟨h1, h2⟩ := ForgetL.spec h.2
    refine ⟨by simp [h1], fun i a b => ?_⟩
    cases i with
    | zero => exact h.1
    | succ i => simpa using h2 i (by simpa using a) (by simpa using b)
  | [], _ :: _, h => h.elim
  | _ :: _, [], h => h.elim
theorem ACall.forget {f : Nat} {args args' : List AV} {H : List AObj} {R : AV → List AObj → Prop} (hw : ForgetL args args') (h : ACall P f args' H R) : ACall P f args H R := fun C vs hg hH hsz hv => by
  obtain ⟨h1, h2⟩ := hw.spec
  exact h C vs hg hH (by omega) (fun i a b => h2 i (by omega) a C _ (hv i (by omega) b))
theorem outok_app {H L : List AObj} {m : Nat} (j : Nat) (hm : m = H.length + j) (hj : j ≤ L.length) (h : ∀ o, o ∈ L.take j → OScoped m o) : OutOk H (H ++ L) m := by
  subst hm
  refine ⟨by simp; omega, by omega, fun k hk => ?_⟩
  rcases Nat.lt_or_ge k H.length with h' | h'
  · exact .inl ⟨h', by rw [List.getElem?_append_left h']⟩
  · right
    have hl : k - H.length < L.length := by omega
    refine ⟨L[k - H.length], by rw [List.getElem?_append_right h', List.getElem?_eq_getElem hl], h _ ?_⟩
    rw [List.mem_take_iff_getElem]
    exact ⟨k - H.length, by omega, rfl⟩
theorem outok_self {H : List AObj} : OutOk H H H.length := ⟨Nat.le_refl _, Nat.le_refl _, fun k hk => .inl ⟨hk, rfl⟩⟩
theorem hget0 {H L : List AObj} {x : AObj} : (H ++ (x :: L))[H.length]? = some x := by
  rw [List.getElem?_append_right (Nat.le_refl _)]; simp
theorem hset0 {H L : List AObj} {x : AObj} : (H ++ L).set H.length x = H ++ L.set 0 x := by
  rw [List.set_append_right _ _ (Nat.le_refl _)]; simp
theorem hsetN {H L : List AObj} {x : AObj} (i : Nat) : (H ++ L).set (H.length + i) x = H ++ L.set i x := by
  rw [List.set_append_right _ _ (by omega)]; simp
theorem takeA0 {H L : List AObj} : (H ++ L).take H.length = H := by simp
theorem takeAN {H L : List AObj} (i : Nat) : (H ++ L).take (H.length + i) = H ++ L.take i := by
  rw [List.take_append]; simp [List.take_of_length_le]
end Ab
namespace Ab
open Go
variable {P : Program} {ro : Option Nat} {Q : Exit → ASt → Prop} {st : ASt} {dst : Option Tmp} {ty : TypeId} {pos : String} {after : Array Edge} {guard : Option (Nat × Bool)} {K : AV → List AObj → Prop}
def BytesOf (P : Program) (t n : Nat) : Prop := (P.info? t).map (·.bytes) = some n
def StructT (P : Program) (t : Nat) (l : List (Nat × Nat)) : Prop := (match P.underlying t with | some (.struct fs) => fs.toList.mapM fun f => (P.info? f.type).map fun i => (f.offset, i.size) | _ => none) = some l
theorem pick_t {α : Type} (a b : α) : (if true = true then a else b) = a := rfl
theorem pick_f {α : Type} (a b : α) : (if false = true then a else b) = b := rfl
attribute [push_cast] if_true if_false pick_t pick_f ofVal ofVal0 ofVals ofVals_arr List.set_nil List.append_assoc List.cons_append List.nil_append List.append_nil List.length_append List.length_cons List.length_nil Nat.zero_add Nat.add_zero Nat.add_assoc hset0 hsetN takeA0 takeAN splice List.take_zero List.take_succ_cons List.take_nil List.drop_zero List.drop_succ_cons List.drop_nil Bool.false_eq_true Int.toNat_natCast List.map_cons List.map_nil Bool.not_true Bool.not_false decide_true decide_false mkS updL keepM
attribute [push_cast] Scoped ScopedL strip stripL stripTok
end Ab
namespace Ab
open Go
variable {P : Program} {ro : Option Nat} {Q : Exit → ASt → Prop} {st : ASt} {dst : Option Tmp} {ty : TypeId} {pos : String} {after : Array Edge} {guard : Option (Nat × Bool)} {K : AV → List AObj → Prop}
def AV.isAgg : AV → Bool
  | .agg _ => true
  | _ => false
def afill (place : Nat → Option (Nat × Nat)) : List AV → List (Nat × AV) → Option (List AV)
  | cells, [] => some cells
  | cells, (i, v) :: rest => match place i with
    | none => none
    | some (off, sz) => if v.cells.length = sz ∧ off + v.cells.length ≤ cells.length ∧ (v.isCell || v.isAgg) = true then afill place (splice cells off v.cells) rest else none
theorem foldl_sets (off : Nat) : ∀ (l : List Value) (s : Nat) (cells : Array Value), off + s + l.length ≤ cells.size →
    ((l.zipIdx s).foldl (fun cs p => cs.setIfInBounds (off + p.2) p.1) cells).size = cells.size ∧
    ∀ i, ((l.zipIdx s).foldl (fun cs p => cs.setIfInBounds (off + p.2) p.1) cells)[i]? = if off + s ≤ i ∧ i < off + s + l.length then l[i - (off + s)]? else cells[i]?
  | [], s, cells, h => by
    refine ⟨rfl, fun i => ?_⟩
    have : ¬ (off + s ≤ i ∧ i < off + s + ([] : List Value).length) := by simp
    rw [if_neg this]; rfl
  | v :: l, s, cells, h => by
    simp only [List.length_cons] at h
    have ih := foldl_sets off l (s + 1) (cells.setIfInBounds (off + s) v) (by simp; omega)
    simp only [List.zipIdx_cons, List.foldl_cons]
    refine ⟨by rw [ih.1]; simp, fun i => ?_⟩
    rw [ih.2 i]
    by_cases h1 : off + (s + 1) ≤ i ∧ i < off + (s + 1) + l.length
    · rw [if_pos h1, if_pos (by simp; omega)]
      rw [show i - (off + s) = (i - (off + (s + 1))) + 1 by omega]; simp
    · rw [if_neg h1]
      by_cases h2 : i = off + s
      · subst h2
        rw [if_pos (by simp), Array.getElem?_setIfInBounds_self_of_lt (by omega)]; simp
      · rw [if_neg (by simp; omega), Array.getElem?_setIfInBounds_ne (by omega)]
def CellsRel (C : Ctx) (as : List AV) (cs : Array Value) : Prop := ∃ h : cs.size = as.length, ∀ i (hi : i < as.length), VRel C as[i] (cs[i]'(h ▸ hi))
theorem isCell_or {v : AV} {C : Ctx} {x : Value} (h : VRel C v x) (hc : (v.isCell || v.isAgg) = true) : v.isCell = true ∨ ∃ cs, v = .agg cs := by
  cases h1 : v.isCell with
  | true => exact .inl rfl
  | false =>
    rw [h1] at hc
    cases v <;> first | exact .inr ⟨_, rfl⟩ | (simp [AV.isAgg] at hc)
theorem fill_rel {C : Ctx} {st : ASt} {a : Act} (hs : SRel C st a) (place : Nat → Option (Nat × Nat)) : ∀ (parts : List (Nat × Operand)) (as : List AV) (cs : Array Value) (out : List AV), CellsRel C as cs →
    afill place as (parts.map fun p => (p.1, st.opd p.2)) = some out → ∃ cs', Instr.fill place cs (parts.map fun p => (p.1, a.eval p.2)) = some cs' ∧ CellsRel C out cs'
  | [], as, cs, out, hr, h => by
    simp [afill] at h; subst h
    exact ⟨cs, rfl, hr⟩
  | (i, x) :: rest, as, cs, out, ⟨hsz, hr⟩, h => by
    simp only [List.map_cons, afill] at h
    simp only [List.map_cons, Instr.fill]
    cases hp : place i with
    | none => simp [hp] at h
    | some p =>
      obtain ⟨off, sz⟩ := p
      simp only [hp] at h ⊢
      by_cases hc : (st.opd x).cells.length = sz ∧ off + (st.opd x).cells.length ≤ as.length ∧ ((st.opd x).isCell || (st.opd x).isAgg) = true
      · rw [if_pos hc] at h
        obtain ⟨hc1, hc2, hc3⟩ := hc
        have hv := hs.opd x
        obtain ⟨e1, e2⟩ := hv.cells (isCell_or hv hc3)
        have hcond : ¬ (((a.eval x).cells.size ≠ sz || decide (off + (a.eval x).cells.size > cs.size)) = true) := by
          simp; omega
        rw [if_neg hcond]
        generalize (a.eval x).cells = xc at e1 e2
        obtain ⟨l, rfl⟩ : ∃ l : List Value, xc = l.toArray := ⟨xc.toList, by simp⟩
        have hl : l.length = (st.opd x).cells.length := by simpa using e1
        have hfs := foldl_sets off l 0 cs (by omega)
        simp only [Nat.add_zero] at hfs
        have hz : l.toArray.zipIdx.foldl (fun cs (x : Value × Nat) => cs.setIfInBounds (off + x.2) x.1) cs = (l.zipIdx 0).foldl (fun cs p => cs.setIfInBounds (off + p.2) p.1) cs := by
          simp
        refine fill_rel hs place rest (splice as off (st.opd x).cells) _ out ⟨?_, fun j hj => ?_⟩ h
        · rw [hz, hfs.1, hsz, splice_length hc2]
        · have h1 := splice_get hc2 j
          rw [List.getElem?_eq_getElem hj] at h1
          have hj0 : j < as.length := by rw [← splice_length hc2]; exact hj
          have h2 := hfs.2 j
          rw [← hz] at h2
          have hjs : j < (l.toArray.zipIdx.foldl (fun cs (x : Value × Nat) => cs.setIfInBounds (off + x.2) x.1) cs).size := by rw [hz, hfs.1]; omega
          rw [Array.getElem?_eq_getElem hjs] at h2
          have hjc : j < cs.size := by omega
          by_cases g1 : j < off
          · rw [if_pos g1, List.getElem?_eq_getElem hj0] at h1
            rw [if_neg (by omega), Array.getElem?_eq_getElem hjc] at h2
            injection h1 with h1; injection h2 with h2
            rw [h1]; rw [h2]; exact hr j hj0
          · by_cases g2 : j < off + (st.opd x).cells.length
            · have g3 : j - off < (st.opd x).cells.length := by omega
              rw [if_neg g1, if_pos g2, List.getElem?_eq_getElem g3] at h1
              rw [if_pos (by omega), List.getElem?_eq_getElem (by omega)] at h2
              injection h1 with h1; injection h2 with h2
              rw [h1]; have := e2 (j - off) g3 (by simp; omega); rw [h2]; simpa using this
            · rw [if_neg g1, if_neg g2, List.getElem?_eq_getElem hj0] at h1
              rw [if_neg (by omega), Array.getElem?_eq_getElem hjc] at h2
              injection h1 with h1; injection h2 with h2
              rw [h1]; rw [h2]; exact hr j hj0
      · rw [if_neg hc] at h; cases h
theorem ZeroOf.rel {C : Ctx} {z : Value} {zs : List Value} (h : z.cells.toList = zs) : CellsRel C (zs.map ofVal) z.cells := by
  subst h
  refine ⟨by simp, fun i hi => ?_⟩
  have := VRel.ofVal C (z.cells[i]'(by simpa using hi))
  simpa using this
theorem AOp_build {t : TypeId} {parts : Array (Nat × Operand)} (zs : List Value) (l : List (Nat × Nat)) (out : List AV) (hz : ZeroOf P t zs) (hst : StructT P t l) (avs : List (Nat × AV)) (hp : parts.toList.map (fun p => (p.1, st.opd p.2)) = avs)
    (hf : afill (fun i => l[i]?) (zs.map ofVal) avs = some out) (k : K (.agg out) st.heap) : AOp P ro ⟨dst, .build t parts, ty, pos, after, guard⟩ K st :=
  AOp_pure _ (fun c => by simp) (fun C a _ _ hs => by
    obtain ⟨z, hzr, hzc⟩ := hz.run C.w
    subst hp
    unfold StructT at hst
    cases hu : P.underlying t with
    | none => simp [hu] at hst
    | some d =>
      cases d <;> simp [hu] at hst
      rename_i fs
      have hplaces : (fs.mapM fun f => (do pure (f.offset, ← Go.sizeOf f.type) : Sem (Nat × Nat))).run P C.w = .ok l.toArray C.w := by
        have : ∀ (fl : List Field) (l : List (Nat × Nat)), (fl.mapM fun f => (P.info? f.type).map fun i => (f.offset, i.size)) = some l →
            (fl.mapM fun f => (do pure (f.offset, ← Go.sizeOf f.type) : Sem (Nat × Nat))).run P C.w = .ok l C.w := by
          intro fl
          induction fl with
          | nil => intro l h; simp at h; subst h; rfl
          | cons f fl ih =>
            intro l h
            simp only [List.mapM_cons] at h
            cases hi : P.info? f.type with
            | none => simp [hi] at h
            | some i =>
              cases hr : (fl.mapM fun f => (P.info? f.type).map fun i => (f.offset, i.size)) with
              | none => rw [hr] at h; simp [hi] at h
              | some r =>
                rw [hr] at h
                simp [hi] at h
                subst h
                have hsz : (Go.sizeOf f.type).run P C.w = .ok i.size C.w := by simp [Go.sizeOf, typeInfo, hi]
                simp only [List.mapM_cons, Sem.run_bind, hsz, Result.andThen_ok, Sem.run_pure, ih r hr]
        obtain ⟨fl⟩ := fs
        simp only [List.mapM_toArray, Sem.run_map, this fl l (by simpa using hst), Result.andThen_ok]
      obtain ⟨cs', hfill, hrel⟩ := fill_rel hs (fun i => l[i]?) parts.toList (zs.map ofVal) z.cells out (ZeroOf.rel hzc) hf
      obtain ⟨hsz, hrel⟩ := hrel
      refine ⟨.agg cs', ?_, .agg out cs' hsz hrel⟩
      have hpl : (fun i : Nat => l.toArray[i]?) = (fun i : Nat => l[i]?) := by funext i; simp
      have hmap : (parts.map fun x => (x.1, a.eval x.2)).toList = parts.toList.map fun p => (p.1, a.eval p.2) := by simp
      simp only [execOp, Instr.build, Sem.run_bind, hzr, Result.andThen_ok, run_underlying hu, hplaces, hpl, hmap, hfill, Sem.run_pure]) k
end Ab
namespace Ab
open Go
variable {P : Program} {ro : Option Nat} {Q : Exit → ASt → Prop} {st : ASt} {dst : Option Tmp} {ty : TypeId} {pos : String} {after : Array Edge} {guard : Option (Nat × Bool)} {K : AV → List AObj → Prop}
theorem VRel.newSl {C : Ctx} {xs : List AV} {b n c : Nat} {cur : Array Value} {e : TypeId} {fr : Nat × Nat} (hb : C.w.heap[b]? = some (.cells cur e fr)) (hn : n = xs.length) (hc : n ≤ c) (hS : (flat xs).length ≤ C.S b) (hsz : (flat xs).length ≤ cur.size)
    (hrel : ∀ i (hi : i < (flat xs).length) (h' : i < cur.size), VRel C (flat xs)[i] cur[i]) (t : Tok) (ht : TokOk C t n (some ⟨b, 0, none⟩) c) : VRel C (.sl t xs) (.slice (some ⟨b, 0, none⟩) n c) := by
  obtain ⟨f, hf⟩ : ∃ f : Nat → Value, ∀ j (h : j < cur.size), f j = cur[j] := ⟨fun j => cur.getD j undef, fun j h => by simp [h]⟩
  refine .sl t xs _ n c f hn hc (fun _ => ⟨b, 0, rfl, fun j hj => ⟨by omega, ?_⟩⟩) (fun j hj => ?_) ht
  · have : j < cur.size := by omega
    simp [World.cell?, hb, this, hf j this]
  · rw [hf j (by omega)]; exact hrel j hj (by omega)
theorem getElem!_mod {α : Type} [Inhabited α] (z : Array α) (i : Nat) (h : 0 < z.size) : z[i % z.size]! = z[i % z.size]'(Nat.mod_lt _ h) := by
  rw [getElem!_pos z _ (Nat.mod_lt _ h)]
theorem AOp_buildSlice {t e n sz : Nat} {parts : Array (Nat × Operand)} (zs : List Value) (xs : List AV) (ht : SliceT P t e) (hs : SzOf P e sz) (hz : ZeroOf P e zs) (hn : n = xs.length)
    (avs : List (Nat × AV)) (hp : parts.toList.map (fun p => (p.1, st.opd p.2)) = avs)
    (hf : afill (fun i => some (i * sz, sz)) ((List.range (n * sz)).map fun i => (zs.map ofVal).getD (i % zs.length) .junk) avs = some (flat xs)) (hsmall : n * sz ≤ 16777216) (hz0 : zs.length = sz)
    (k : K (.sl .none xs) st.heap) : AOp P ro ⟨dst, .buildSlice t n parts, ty, pos, after, guard⟩ K st :=
  AOp_value (fun ρ => semAt_of (fun c => by simp) ro ρ) fun C a hg hH hsr => by
    obtain ⟨z, hzr, hzc⟩ := hz.run C.w
    subst hp
    have hz1 : z.cells.size = sz := by rw [← hz0, ← hzc]; simp
    have ht' : P.underlying t = some (.slice e) := ht
    obtain ⟨c0, hc0⟩ : ∃ c0 : Array Value, c0 = ((Array.range (n * sz)).map ((if n * sz = 0 then #[] else z.cells)[· % (if n * sz = 0 then #[] else z.cells).size]!)) := ⟨_, rfl⟩
    have hrel0 : CellsRel C ((List.range (n * sz)).map fun i => (zs.map ofVal).getD (i % zs.length) .junk) c0 := by
      subst hc0
      refine ⟨by simp, fun i hi => ?_⟩
      simp at hi
      have hne : n * sz ≠ 0 := by omega
      have hszp : 0 < sz := by rcases Nat.eq_zero_or_pos sz with h | h; · rw [h] at hne; simp at hne
                               · exact h
      simp only [if_neg hne, List.getElem_map, List.getElem_range, Array.getElem_map, Array.getElem_range]
      rw [getElem!_mod z.cells i (by omega)]
      have := VRel.ofVal C (z.cells[i % z.cells.size]'(Nat.mod_lt _ (by omega)))
      subst hzc
      have hlt : i % z.cells.size < z.cells.size := Nat.mod_lt _ (by omega)
      simpa [List.getD, hlt] using this
    obtain ⟨cs', hfill, hsz', hrel⟩ := fill_rel hsr (fun i => some (i * sz, sz)) parts.toList _ c0 (flat xs) hrel0 hf
    have hmap : (parts.map fun x => (x.1, a.eval x.2)).toList = parts.toList.map fun p => (p.1, a.eval p.2) := by simp
    obtain ⟨hg', he⟩ := step_imm hg (.cells cs' e) cs'.size (C.w.alloc (.cells cs' e)) rfl ⟨rfl, rfl, rfl, by first | exact Nat.le_refl _ | exact Nat.le_add_right _ _⟩ rfl
    refine ⟨_, .slice (some ⟨C.w.heap.size, 0, none⟩) n n, .sl .none xs, ?_, hg', he, ?_, ?_⟩
    · have hsm : ¬ (n * sz > 2 ^ 24) := by omega
      simp only [execOp, Instr.buildSlice, Sem.run_bind, run_underlying ht', Result.andThen_ok, hs.run, Sem.run_ite, if_neg hsm, Sem.run_pure]
      by_cases h0 : n * sz = 0
      · simp only [if_pos h0] at hc0
        simp only [if_pos h0, ← hc0, hmap, hfill, newRow, Sem.run_bind, run_newObj, Sem.run_pure, Result.andThen_ok]
        rfl
      · simp only [if_neg h0] at hc0
        simp only [if_neg h0, hzr, Result.andThen_ok, ← hc0, hmap, hfill, newRow, Sem.run_bind, run_newObj, Sem.run_pure]
        rfl
    · refine VRel.newSl (heap_alloc_new _ _) hn (Nat.le_refl _) ?_ (by omega) (fun i hi hi' => (hrel i hi).ext he) .none trivial
      show _ ≤ if _ then _ else _
      rw [if_pos rfl]; omega
    · rw [← hH] at k; exact k
theorem AOp_buildSlice0 {t e sz : Nat} {parts : Array (Nat × Operand)} (ht : SliceT P t e) (hs : SzOf P e sz) (hp : parts = #[])
    (k : K (.sl .zero []) st.heap) : AOp P ro ⟨dst, .buildSlice t 0 parts, ty, pos, after, guard⟩ K st :=
  AOp_value (fun ρ => semAt_of (fun c => by simp) ro ρ) fun C a hg hH hsr => by
    subst hp
    have ht' : P.underlying t = some (.slice e) := ht
    obtain ⟨hg', he⟩ := step_imm hg (.cells #[] e) 0 (C.w.alloc (.cells #[] e)) rfl ⟨rfl, rfl, rfl, by first | exact Nat.le_refl _ | exact Nat.le_add_right _ _⟩ rfl
    refine ⟨_, .slice (some ⟨C.w.heap.size, 0, none⟩) 0 0, .sl .zero [], ?_, hg', he, ?_, ?_⟩
    · have h0 : ∀ f : Nat → Value, (Array.range 0).map f = #[] := fun f => Array.eq_empty_of_size_eq_zero (by simp)
      simp [execOp, Instr.buildSlice, run_underlying ht', hs.run, Instr.fill, newRow, h0]
    · exact .sl .zero [] _ 0 0 (fun _ => undef) rfl (Nat.le_refl _) (fun h => absurd rfl h) (fun j h => absurd h (by simp [flat])) ⟨rfl, rfl⟩
    · rw [← hH] at k; exact k
theorem flat_cells : ∀ l : List AV, (∀ v, v ∈ l → v.cells = [v]) → flat l = l
  | [], _ => rfl
  | v :: r, h => by
    have := flat_cells r (fun x hx => h x (by simp [hx]))
    unfold flat at this ⊢
    rw [List.flatMap_cons, this, h v (by simp)]; rfl
theorem AOp_convert_bytes {t t' e : TypeId} {x : Operand} (s : List UInt8) (hx : st.opd x = .str s) (hd : SliceT P t' e) (he : P.underlying e = some (.int .u8)) (hsrc : P.underlying t = some .string) (hlen : s.length < 9223372036854775808)
    (k : K (.sl .none (s.map fun b => .int .u8 b.toNat)) st.heap) : AOp P ro ⟨dst, .convert t t' x, ty, pos, after, guard⟩ K st :=
  AOp_value (fun ρ => semAt_of (fun c => by simp) ro ρ) fun C a hg hH hsr => by
    have hv := hsr.opd x
    rw [hx] at hv
    have hd' : P.underlying t' = some (.slice e) := hd
    obtain ⟨cur, hcur⟩ : ∃ cur, cur = Lib.bytesCells C.w e ⟨s.toArray⟩ := ⟨_, rfl⟩
    have hge : s.length ≤ grownCap C.w s.length 0 e := grownCap_ge _ _ _ _
    have hcs : cur.size = grownCap C.w s.length 0 e := by
      rw [hcur]; unfold Lib.bytesCells; simp only [Array.size_append, Array.size_map, Array.size_replicate, size_mk]
      have : s.toArray.size = s.length := by simp
      omega
    have hw : (Lib.bytesWorld C.w e ⟨s.toArray⟩).heap = C.w.heap.push (.cells cur e (cur.size, cur.size + 1)) := by
      apply Array.ext_getElem?
      intro i
      rcases Nat.lt_trichotomy i C.w.heap.size with h | h | h
      · rw [Lib.bytesWorld_at_old _ _ _ _ h, get_push _ _ _ h]
      · subst h; rw [Lib.bytesWorld_at_new, hcur]; simp
      · rw [Array.getElem?_eq_none (by rw [Lib.bytesWorld_size]; omega), Array.getElem?_eq_none (by simp; omega)]
    obtain ⟨hg', hx'⟩ := step_imm hg _ cur.size (Lib.bytesWorld C.w e ⟨s.toArray⟩) hw ⟨rfl, rfl, rfl, by first | exact Nat.le_refl _ | exact Nat.le_add_right _ _⟩ rfl
    refine ⟨_, .slice (some ⟨C.w.heap.size, 0, none⟩) s.length (grownCap C.w s.length 0 e), .sl .none (s.map fun b => .int .u8 b.toNat), ?_, hg', hx', ?_, ?_⟩
    · simp only [execOp, hv.str_inv, Sem.run_bind, Lib.run_convert_string_bytes C.w t t' e ⟨s.toArray⟩ hsrc hd' he, Result.andThen_ok, size_mk]
      rfl
    · have hflat : flat (s.map fun b => AV.int .u8 b.toNat) = s.map fun b => AV.int .u8 b.toNat := flat_cells _ (fun v hv => by obtain ⟨b, _, rfl⟩ := List.mem_map.1 hv; rfl)
      refine VRel.newSl (cur := cur) (e := e) (fr := (cur.size, cur.size + 1)) (by simp [hw]) (by simp) hge ?_ ?_ ?_ .none trivial
      · rw [hflat]; show _ ≤ if _ then _ else _; rw [if_pos rfl, hcs]; simpa using hge
      · rw [hflat, hcs]; simpa using hge
      · intro i hi hi'
        simp only [hflat] at hi ⊢
        have hi2 : i < s.length := by simpa using hi
        have h0 : (Lib.bytesCells C.w e ⟨s.toArray⟩)[i]? = some (.int .u8 (s[i].toNat)) := by
          unfold Lib.bytesCells; rw [Array.getElem?_append_left (by simpa using hi2)]; simp [hi2]
        rw [← hcur, Array.getElem?_eq_getElem hi'] at h0
        injection h0 with h0
        rw [h0]; simp; exact .int _ _
    · rw [← hH] at k; exact k
theorem AOp_convert_int {t t' : TypeId} {x : Operand} (kd kd' : IntKind) (n : Int) (hx : st.opd x = .int kd n) (hs : P.underlying t = some (.int kd)) (hd : P.underlying t' = some (.int kd'))
    (k : K (.int kd' (kd'.wrap n)) st.heap) : AOp P ro ⟨dst, .convert t t' x, ty, pos, after, guard⟩ K st :=
  AOp_pure _ (fun c => by simp) (fun C a _ _ hsr => by
    have hv := hsr.opd x
    rw [hx] at hv
    exact ⟨_, by simp [execOp, hv.int_inv, convert, run_underlying hs, run_underlying hd, Conv.intToInt], .int _ _⟩) k
theorem AOp_shr {t t' : TypeId} {x y : Operand} (kd kd' : IntKind) (n s : Int) (hx : st.opd x = .int kd n) (hy : st.opd y = .int kd' s) (h0 : 0 ≤ s) (hs : s.toNat ≤ kd.bits)
    (k : K (.int kd (n.fdiv (2 ^ s.toNat))) st.heap) : AOp P ro ⟨dst, .binOp .shr t x y t', ty, pos, after, guard⟩ K st :=
  AOp_pure _ (fun c => by simp) (fun C a _ _ hsr => by
    have h1 := hsr.opd x
    have h2 := hsr.opd y
    rw [hx] at h1
    rw [hy] at h2
    refine ⟨_, ?_, .int _ _⟩
    have hn : ¬ s < 0 := by omega
    have hm : min s.toNat kd.bits = s.toNat := by omega
    simp only [execOp, h1.int_inv, h2.int_inv, Sem.run_bind, eqGuard_run (P := P) (p := .int kd n) (fun cs => by simp) (by simp), Result.andThen_ok, binOp, Op.shift, if_neg hn, hm, Sem.run_pure]) k
theorem AOp_max {x y : Operand} {ts : Array TypeId} (kd : IntKind) (n m : Int) (hx : st.opd x = .int kd n) (hy : st.opd y = .int kd m) (k : K (.int kd (max n m)) st.heap) :
    AOp P ro ⟨dst, .call { callee := .builtin .max, args := #[x, y], argTypes := ts }, ty, pos, after, guard⟩ K st :=
  AOp_pure _ (fun c => by simp) (fun C a _ _ hsr => by
    have h1 := hsr.opd x
    have h2 := hsr.opd y
    rw [hx] at h1
    rw [hy] at h2
    refine ⟨.int kd (max n m), ?_, .int _ _⟩
    have e : (if m > n then m else n) = max n m := by rw [Int.max_def]; split <;> split <;> omega
    simp [execOp, resolve, invoke, builtin, h1.int_inv, h2.int_inv, run_max_int2, e]) k
theorem AOp_min {x y : Operand} {ts : Array TypeId} (kd : IntKind) (n m : Int) (hx : st.opd x = .int kd n) (hy : st.opd y = .int kd m) (k : K (.int kd (min n m)) st.heap) :
    AOp P ro ⟨dst, .call { callee := .builtin .min, args := #[x, y], argTypes := ts }, ty, pos, after, guard⟩ K st :=
  AOp_pure _ (fun c => by simp) (fun C a _ _ hsr => by
    have h1 := hsr.opd x
    have h2 := hsr.opd y
    rw [hx] at h1
    rw [hy] at h2
    refine ⟨.int kd (min n m), ?_, .int _ _⟩
    have e : (if m < n then m else n) = min n m := by rw [Int.min_def]; split <;> split <;> omega
    simp [execOp, resolve, invoke, builtin, h1.int_inv, h2.int_inv, run_min_int2, e]) k
theorem bounds_run (b : Bool) (len cap : Nat) (lo hi : Option Value) (l h : Nat) (w : World) (hlo : (lo = none ∧ l = 0) ∨ ∃ kd, lo = some (.int kd l)) (hhi : (hi = none ∧ h = len) ∨ ∃ kd, hi = some (.int kd h)) (h1 : l ≤ h) (h2 : h ≤ cap) :
    (Instr.sliceBounds b len cap lo hi none).run P w = .ok (l, h, cap) w := by
  have e1 : (0 : Int) ≤ (l : Int) ∧ (l : Int) ≤ (h : Int) := by omega
  have e2 : (0 : Int) ≤ (h : Int) ∧ (h : Int) ≤ (cap : Int) := by omega
  rcases hlo with ⟨rfl, rfl⟩ | ⟨k1, rfl⟩ <;> rcases hhi with ⟨rfl, rfl⟩ | ⟨k2, rfl⟩ <;>
    simp [Instr.sliceBounds, Instr.sliceBound, asIntOf, e1, e2, h1, h2]
def OptInt (st : ASt) (o : Option Operand) (n d : Nat) : Prop := (o = none ∧ n = d) ∨ ∃ x kd, o = some x ∧ st.opd x = .int kd (n : Int)
theorem OptInt.val {C : Ctx} {a : Act} (hs : SRel C st a) {o : Option Operand} {n d : Nat} (h : OptInt st o n d) : (o.map a.eval = none ∧ n = d) ∨ ∃ kd, o.map a.eval = some (.int kd n) := by
  rcases h with ⟨rfl, rfl⟩ | ⟨x, kd, rfl, hx⟩
  · exact .inl ⟨rfl, rfl⟩
  · have hv := hs.opd x
    rw [hx] at hv
    exact .inr ⟨kd, by simp [hv.int_inv]⟩
theorem AOp_slice_str {t : TypeId} {x : Operand} {lo hi : Option Operand} (s : List UInt8) (l h : Nat) (hx : st.opd x = .str s) (ht : P.underlying t = some .string) (hlo : OptInt st lo l 0) (hhi : OptInt st hi h s.length) (h1 : l ≤ h) (h2 : h ≤ s.length)
    (k : K (.str ((s.drop l).take (h - l))) st.heap) : AOp P ro ⟨dst, .slice t x lo hi none, ty, pos, after, guard⟩ K st :=
  AOp_pure _ (fun c => by simp) (fun C a _ _ hsr => by
    have hv := hsr.opd x
    rw [hx] at hv
    refine ⟨_, ?_, .str _⟩
    have hb := bounds_run (P := P) false s.length s.length (lo.map a.eval) (hi.map a.eval) l h C.w (hlo.val hsr) (hhi.val hsr) h1 h2
    have hex := Lib.extract_eq ⟨s.toArray⟩ l h
    simp only at hex
    simp [execOp, hv.str_inv, Instr.sliceAt, Instr.slice, run_underlying ht, size_mk, hb, hex]) k
theorem flat_drop {sz : Nat} : ∀ {xs : List AV} (l : Nat), Uni sz xs → l ≤ xs.length → flat (xs.drop l) = (flat xs).drop (l * sz)
  | xs, 0, _, _ => by simp
  | [], l + 1, _, h => by simp at h
  | x :: xs, l + 1, hu, h => by
    have h1 := hu x (by simp)
    have ih := flat_drop (xs := xs) l (fun y hy => hu y (by simp [hy])) (by simpa using h)
    rw [List.drop_succ_cons, ih]
    unfold flat
    simp only [List.flatMap_cons]
    rw [show (l + 1) * sz = x.cells.length + l * sz by rw [h1, Nat.add_mul]; omega, List.drop_length_add_append]
theorem flat_take {sz : Nat} : ∀ {xs : List AV} (l : Nat), Uni sz xs → flat (xs.take l) = (flat xs).take (l * sz)
  | xs, 0, _ => by simp [flat]
  | [], l + 1, _ => by simp [flat]
  | x :: xs, l + 1, hu => by
    have h1 := hu x (by simp)
    have ih := flat_take (xs := xs) l (fun y hy => hu y (by simp [hy]))
    rw [List.take_succ_cons]
    unfold flat at ih ⊢
    simp only [List.flatMap_cons, ih]
    rw [show (l + 1) * sz = x.cells.length + l * sz by rw [h1, Nat.add_mul]; omega, List.take_length_add_append]
theorem AOp_slice_sl {t e sz : Nat} {x : Operand} {lo hi : Option Operand} (tk : Tok) (xs : List AV) (l h : Nat) (hx : st.opd x = .sl tk xs) (ht : SliceT P t e) (hs : SzOf P e sz) (hu : Uni sz xs) (hlo : OptInt st lo l 0) (hhi : OptInt st hi h xs.length) (h1 : l ≤ h) (h2 : h ≤ xs.length)
    (k : K (.sl .none ((xs.drop l).take (h - l))) st.heap) : AOp P ro ⟨dst, .slice t x lo hi none, ty, pos, after, guard⟩ K st :=
  AOp_pure _ (fun c => by simp) (fun C a _ _ hsr => by
    have hv := hsr.opd x
    rw [hx] at hv
    generalize hxx : a.eval x = xx at hv
    cases hv with
    | sl _ _ ad n c f hn hc hrow hrel htok =>
      have ht' : P.underlying t = some (.slice e) := ht
      subst hn
      have hb := bounds_run (P := P) true xs.length c (lo.map a.eval) (hi.map a.eval) l h C.w (hlo.val hsr) (hhi.val hsr) h1 (by omega)
      refine ⟨_, by simp [execOp, hxx, Instr.sliceAt, Instr.slice, run_underlying ht', hb, hs.run]; rfl, ?_⟩
      have hu' : Uni sz ((xs.drop l).take (h - l)) := fun y hy => hu y (List.mem_of_mem_drop (List.mem_of_mem_take hy))
      have hfl := flat_length hu
      have hfl' := flat_length hu'
      have hlen : ((xs.drop l).take (h - l)).length = h - l := by simp; omega
      have hfe : flat ((xs.drop l).take (h - l)) = ((flat xs).drop (l * sz)).take ((h - l) * sz) := by
        rw [flat_take _ (fun y hy => hu y (List.mem_of_mem_drop hy)), flat_drop l hu (by omega)]
      have hm : (h - l) * sz + l * sz = h * sz := by rw [← Nat.add_mul]; congr 1; omega
      have hm2 : h * sz ≤ xs.length * sz := Nat.mul_le_mul_right _ h2
      refine .sl .none _ _ (h - l) (c - l) (fun j => f (l * sz + j)) hlen.symm (by omega) (fun hne => ?_) (fun j hj => ?_) trivial
      · have hne' : flat xs ≠ [] := fun he => hne (by rw [hfe, he]; simp)
        obtain ⟨b, o, rfl, hr⟩ := hrow hne'
        have hhl : l < h := by
          rcases Nat.lt_or_ge l h with h' | h'
          · exact h'
          · exfalso; apply hne; rw [show h - l = 0 by omega]; simp [flat]
        have hcl : ¬ c = l := by omega
        refine ⟨b, o + l * sz, by rw [if_neg hcl]; simp [add_mk], fun j hj => ?_⟩
        rw [hfl', hlen] at hj
        have := hr (l * sz + j) (by rw [hfl]; omega)
        rw [← Nat.add_assoc] at this
        exact this
      · have hj' : j < (h - l) * sz := by rw [hfl', hlen] at hj; exact hj
        have e1 : (flat ((xs.drop l).take (h - l)))[j] = (flat xs)[l * sz + j]'(by rw [hfl]; omega) := by
          simp only [hfe, List.getElem_take, List.getElem_drop]
        rw [e1]; exact hrel _ _) k
end Ab
namespace Ab
open Go
variable {P : Program} {ro : Option Nat} {Q : Exit → ASt → Prop} {st : ASt} {dst : Option Tmp} {ty : TypeId} {pos : String} {after : Array Edge} {guard : Option (Nat × Bool)} {K : AV → List AObj → Prop}
theorem step_tok_in {C : Ctx} (hg : Good C) (k : Nat) {e : TypeId} {sz len len' : Nat} {cur cur' : Array Value} {w' : World} (hk : C.H[k]? = some (.tok e sz len)) (hb : C.w.heap[C.μ k]? = some (.cells cur e (0, 0))) (hS : C.S (C.μ k) = len * sz)
    (hw : w'.heap = C.w.heap.setIfInBounds (C.μ k) (.cells cur' e (0, 0))) (so : SameOut C.w w') (hsz : cur'.size = cur.size) (hold : ∀ o, o < len * sz → cur'[o]? = cur[o]?) (hlt : len < len') (hfit : len' * sz ≤ cur.size)
    {C' : Ctx} (hC : C' = ⟨fun b => if b = C.μ k then len' * sz else C.S b, C.μ, C.H.set k (.tok e sz len'), w'⟩) : Good C' ∧ Ext C C' := by
  subst hC
  have hm := hg.lt k _ hk (by simp [AObj.kind])
  have hkl : k < C.H.length := (List.getElem?_eq_some_iff.1 hk).1
  have hle : len * sz ≤ len' * sz := Nat.mul_le_mul_right _ (Nat.le_of_lt hlt)
  have hheap : ∀ b, b ≠ C.μ k → w'.heap[b]? = C.w.heap[b]? := fun b h => by rw [hw, Array.getElem?_setIfInBounds_ne (Ne.symm h)]
  have hsame : w'.heap[C.μ k]? = some (.cells cur' e (0, 0)) := by rw [hw]; simp [hm]
  have hother : ∀ j (p : AObj), j ≠ k → C.H[j]? = some p → p.kind ≠ 6 → C.μ j ≠ C.μ k := fun j p hj hp hd ee => hj (hg.inj j k p _ hp hk hd (by simp [AObj.kind]) ee)
  have hset : ∀ j, j ≠ k → (C.H.set k (.tok e sz len'))[j]? = C.H[j]? := fun j hj => by rw [List.getElem?_set, if_neg (Ne.symm hj)]
  have hsetk : (C.H.set k (.tok e sz len'))[k]? = some (.tok e sz len') := by rw [List.getElem?_set, if_pos rfl]; simp [hkl]
  have he : Ext C ⟨fun b => if b = C.μ k then len' * sz else C.S b, C.μ, C.H.set k (.tok e sz len'), w'⟩ := by
    refine ⟨so.os, so.tape, so.output, so.drawn, by show _ ≤ w'.heap.size; rw [hw]; simp, ?_, ?_, ?_, ?_, ?_, fun _ _ _ _ _ => rfl, ?_, ?_, ?_⟩
    · intro b; show C.S b ≤ if b = C.μ k then len' * sz else C.S b
      split
      · rename_i h; rw [h, hS]; exact hle
      · exact Nat.le_refl _
    · intro b o ho
      by_cases h : b = C.μ k
      · subst h; rw [hS] at ho; simp [World.cell?, hsame, hb, hold o ho]
      · exact cell_eq (hheap b h)
    · intro b _ hno; exact hheap b (fun ee => hno k _ hk (by simp [AObj.kind]) ee.symm)
    · intro j p hj hd
      by_cases h : j = k
      · exact .inr ⟨k, _, hk, by simp [AObj.kind], by rw [h]⟩
      · exact .inr ⟨j, p, by rw [← hset j h]; exact hj, hd, rfl⟩
    · intro j p hj
      by_cases h : j = k
      · rw [h] at hj ⊢; rw [hk] at hj; injection hj with hj; exact ⟨_, hsetk, fun _ => by rw [← hj]; rfl⟩
      · exact ⟨p, by show (C.H.set k _)[j]? = _; rw [hset j h]; exact hj, fun _ => rfl⟩
    · intro j e1 sz1 len1 hj
      by_cases h : j = k
      · rw [h] at hj ⊢; rw [hk] at hj; injection hj with hj; injection hj with h1 h2 h3
        subst h1 h2 h3
        exact ⟨len', hsetk, Nat.le_of_lt hlt, fun h => by omega⟩
      · exact ⟨len1, by show (C.H.set k _)[j]? = _; rw [hset j h]; exact hj, Nat.le_refl _, fun _ => ⟨rfl, fun cur hc => ⟨cur, by rw [hheap _ (hother j _ h hj (by simp [AObj.kind]))]; exact hc, rfl⟩⟩⟩
    · intro j ver es hj
      have h : j ≠ k := fun ee => by rw [ee, hk] at hj; cases hj
      exact ⟨ver, es, by show (C.H.set k _)[j]? = _; rw [hset j h]; exact hj, Nat.le_refl _, fun _ => ⟨rfl, hheap _ (hother j _ h hj (by simp [AObj.kind]))⟩⟩
    · intro j e1 sz1 vs1 hj
      have h : j ≠ k := fun ee => by rw [ee, hk] at hj; cases hj
      exact ⟨vs1, by show (C.H.set k _)[j]? = _; rw [hset j h]; exact hj, Nat.le_refl _, fun _ => ⟨rfl, fun cur hc => ⟨cur, by rw [hheap _ (hother j _ h hj (by simp [AObj.kind]))]; exact hc, rfl⟩⟩⟩
  refine ⟨⟨?_, ?_, ?_, ?_, hg.tab.ext he⟩, he⟩
  · intro j p hj
    by_cases h : j = k
    · subst h; rw [hsetk] at hj; injection hj with hj; subst hj
      exact ⟨cur', hsame, by show (if _ then _ else _) = _; rw [if_pos rfl], by omega⟩
    · rw [hset j h] at hj
      by_cases hd : p.kind = 6
      · cases p <;> first | trivial | (simp [AObj.kind] at hd)
      · have hne := hother j p h hj hd
        exact ORel.ext he rfl (hheap _ hne) (by show (if _ then _ else _) = _; rw [if_neg hne]) (hg.obj j p hj)
  · intro j p hj hd
    show C.μ j < w'.heap.size
    rw [hw, Array.size_setIfInBounds]
    by_cases h : j = k
    · rw [h]; exact hm
    · rw [hset j h] at hj; exact hg.lt j p hj hd
  · intro i j p q hi hj hd1 hd2 hmm
    have l : ∀ (i : Nat) (p : AObj), (C.H.set k (.tok e sz len'))[i]? = some p → p.kind ≠ 6 → ∃ p' : AObj, C.H[i]? = some p' ∧ p'.kind ≠ 6 := fun i p hi hd => by
      by_cases h : i = k
      · exact ⟨_, by rw [h]; exact hk, by simp [AObj.kind]⟩
      · exact ⟨p, by rw [← hset i h]; exact hi, hd⟩
    obtain ⟨p', a1, a2⟩ := l i p hi hd1
    obtain ⟨q', b1, b2⟩ := l j q hj hd2
    exact hg.inj i j p' q' a1 b1 a2 b2 hmm
  · intro b hb'
    have hb2 : C.w.heap.size ≤ b := by have h : w'.heap.size ≤ b := hb'; rw [hw, Array.size_setIfInBounds] at h; exact h
    show (if b = C.μ k then _ else _) = _
    rw [if_neg (by omega)]; exact hg.fresh b hb2
theorem step_tok_move {C : Ctx} (hg : Good C) (k : Nat) {e : TypeId} {sz len len' : Nat} {cur' : Array Value} {w' : World} (hk : C.H[k]? = some (.tok e sz len))
    (hw : w'.heap = C.w.heap.push (.cells cur' e (0, 0))) (so : SameOut C.w w') (hlt : len < len') (hfit : len' * sz ≤ cur'.size)
    {C' : Ctx} (hC : C' = ⟨fun b => if b = C.w.heap.size then len' * sz else C.S b, fun j => if j = k then C.w.heap.size else C.μ j, C.H.set k (.tok e sz len'), w'⟩) : Good C' ∧ Ext C C' := by
  subst hC
  have hkl : k < C.H.length := (List.getElem?_eq_some_iff.1 hk).1
  have hheap : ∀ b, b < C.w.heap.size → w'.heap[b]? = C.w.heap[b]? := fun b hb => by rw [hw]; exact get_push _ _ _ hb
  have hnew : w'.heap[C.w.heap.size]? = some (.cells cur' e (0, 0)) := by rw [hw]; simp
  have hset : ∀ j, j ≠ k → (C.H.set k (.tok e sz len'))[j]? = C.H[j]? := fun j hj => by rw [List.getElem?_set, if_neg (Ne.symm hj)]
  have hsetk : (C.H.set k (.tok e sz len'))[k]? = some (.tok e sz len') := by rw [List.getElem?_set, if_pos rfl]; simp [hkl]
  have hmu : ∀ j, j ≠ k → (if j = k then C.w.heap.size else C.μ j) = C.μ j := fun j h => if_neg h
  have he : Ext C ⟨fun b => if b = C.w.heap.size then len' * sz else C.S b, fun j => if j = k then C.w.heap.size else C.μ j, C.H.set k (.tok e sz len'), w'⟩ := by
    refine ⟨so.os, so.tape, so.output, so.drawn, by show _ ≤ w'.heap.size; rw [hw]; simp, ?_, ?_, ?_, ?_, ?_, ?_, ?_, ?_, ?_⟩
    · intro b; show C.S b ≤ if b = C.w.heap.size then len' * sz else C.S b
      split
      · rename_i h; rw [hg.fresh b (by omega)]; exact Nat.zero_le _
      · exact Nat.le_refl _
    · intro b o ho; exact cell_eq (hheap b (hg.S_lt ho))
    · intro b hb _; exact hheap b hb
    · intro j p hj hd
      by_cases h : j = k
      · left; show C.w.heap.size ≤ if j = k then C.w.heap.size else C.μ j; rw [if_pos h]; exact Nat.le_refl _
      · exact .inr ⟨j, p, by rw [← hset j h]; exact hj, hd, (hmu j h).symm⟩
    · intro j p hj
      by_cases h : j = k
      · rw [h] at hj ⊢; rw [hk] at hj; injection hj with hj; exact ⟨_, hsetk, fun _ => by rw [← hj]; rfl⟩
      · exact ⟨p, by show (C.H.set k _)[j]? = _; rw [hset j h]; exact hj, fun _ => rfl⟩
    · intro j p hj h1 _
      have h : j ≠ k := fun ee => by rw [ee, hk] at hj; injection hj with hj; subst hj; exact h1 rfl
      exact hmu j h
    · intro j e1 sz1 len1 hj
      by_cases h : j = k
      · rw [h] at hj ⊢; rw [hk] at hj; injection hj with hj; injection hj with h1 h2 h3
        subst h1 h2 h3
        exact ⟨len', hsetk, Nat.le_of_lt hlt, fun h => by omega⟩
      · exact ⟨len1, by show (C.H.set k _)[j]? = _; rw [hset j h]; exact hj, Nat.le_refl _, fun _ => ⟨hmu j h, fun cur hc => ⟨cur, by rw [hheap _ (hg.lt j _ hj (by simp [AObj.kind]))]; exact hc, rfl⟩⟩⟩
    · intro j ver es hj
      have h : j ≠ k := fun ee => by rw [ee, hk] at hj; cases hj
      exact ⟨ver, es, by show (C.H.set k _)[j]? = _; rw [hset j h]; exact hj, Nat.le_refl _, fun _ => ⟨rfl, hheap _ (hg.lt j _ hj (by simp [AObj.kind]))⟩⟩
    · intro j e1 sz1 vs1 hj
      have h : j ≠ k := fun ee => by rw [ee, hk] at hj; cases hj
      exact ⟨vs1, by show (C.H.set k _)[j]? = _; rw [hset j h]; exact hj, Nat.le_refl _, fun _ => ⟨hmu j h, fun cur hc => ⟨cur, by rw [hheap _ (hg.lt j _ hj (by simp [AObj.kind]))]; exact hc, rfl⟩⟩⟩
  refine ⟨⟨?_, ?_, ?_, ?_, hg.tab.ext he⟩, he⟩
  · intro j p hj
    by_cases h : j = k
    · subst h; rw [hsetk] at hj; injection hj with hj; subst hj
      exact ⟨cur', by show w'.heap[if j = j then _ else _]? = _; rw [if_pos rfl]; exact hnew, by show (if (if j = j then C.w.heap.size else C.μ j) = C.w.heap.size then _ else _) = _; rw [if_pos rfl, if_pos rfl], hfit⟩
    · rw [hset j h] at hj
      by_cases hd : p.kind = 6
      · cases p <;> first | trivial | (simp [AObj.kind] at hd)
      · have hlt' := hg.lt j p hj hd
        exact ORel.ext he (hmu j h) (hheap _ hlt') (by show (if _ then _ else _) = _; rw [if_neg (by omega)]) (hg.obj j p hj)
  · intro j p hj hd
    show (if j = k then C.w.heap.size else C.μ j) < w'.heap.size
    rw [hw]; simp
    by_cases h : j = k
    · rw [if_pos h]; omega
    · rw [if_neg h]; rw [hset j h] at hj; have := hg.lt j p hj hd; omega
  · intro i j p q hi hj hd1 hd2 hmm
    simp only at hmm
    by_cases h1 : i = k <;> by_cases h2 : j = k
    · rw [h1, h2]
    · rw [if_pos h1, if_neg h2] at hmm; rw [hset j h2] at hj; have := hg.lt j q hj hd2; omega
    · rw [if_neg h1, if_pos h2] at hmm; rw [hset i h1] at hi; have := hg.lt i p hi hd1; omega
    · rw [if_neg h1, if_neg h2] at hmm; rw [hset i h1] at hi; rw [hset j h2] at hj; exact hg.inj i j p q hi hj hd1 hd2 hmm
  · intro b hb
    have hb' : C.w.heap.size < b := by have h : w'.heap.size ≤ b := hb; rw [hw] at h; simp at h; omega
    show (if b = C.w.heap.size then _ else _) = 0
    rw [if_neg (by omega)]; exact hg.fresh b (by omega)
theorem info_of {t n by_ : Nat} {zs : List Value} (hs : SzOf P t n) (hb : BytesOf P t by_) (hz : ZeroOf P t zs) : ∃ i z, P.info? t = some i ∧ i.size = n ∧ i.bytes = by_ ∧ i.zero = some z ∧ z.cells.toList = zs := by
  unfold SzOf at hs; unfold BytesOf at hb; unfold ZeroOf at hz
  cases hi : P.info? t with
  | none => simp [hi] at hs
  | some i =>
    simp [hi] at hs hb hz
    obtain ⟨z, h1, h2⟩ := hz
    exact ⟨i, z, rfl, hs, hb, h1, h2⟩
theorem sl_values {C : Ctx} {tk : Tok} {ys : List AV} {x : Value} (h : VRel C (.sl tk ys) x) : ∃ ad c, x = .slice ad ys.length c ∧ ys.length ≤ c ∧ TokOk C tk ys.length ad c ∧ ∃ news : List Value, news.length = (flat ys).length ∧
    (∀ j (h : j < (flat ys).length) (h' : j < news.length), VRel C (flat ys)[j] news[j]) ∧ (flat ys ≠ [] → ∃ b o, ad = some ⟨b, o, none⟩ ∧ ∀ j u, news[j]? = some u → C.w.cell? ((⟨b, o, none⟩ : Addr).add j) = some u) := by
  cases h with
  | sl _ _ ad n c f hn hc hrow hrel htok =>
    subst hn
    refine ⟨ad, c, rfl, hc, htok, (List.range (flat ys).length).map f, by simp, fun j h h' => by simpa using hrel j h, fun hne => ?_⟩
    obtain ⟨b, o, ha, hr⟩ := hrow hne
    refine ⟨b, o, ha, fun j u hu => ?_⟩
    rw [add_mk]
    have hj : j < (flat ys).length := by
      have := (List.getElem?_eq_some_iff.1 hu).1; simpa using this
    have := (hr j hj).2
    simp [hj] at hu
    rw [this, hu]
theorem ones_of {C : Ctx} {l : List AV} {news : List Value} (hlen : news.length = l.length) (hrel : ∀ j (h : j < l.length) (h' : j < news.length), VRel C l[j] news[j]) (hcell : ∀ c, c ∈ l → c.isCell = true) : ∀ u, u ∈ news → u.oneCell' = true := fun u hu => by
  obtain ⟨j, hj, rfl⟩ := List.getElem_of_mem hu
  exact (hrel j (by omega) hj).oneCell (hcell _ (by simp))
theorem append_none_run {t e : TypeId} {sz : Nat} (ht : SliceT P t e) (hs : SzOf P e sz) (hz : ∃ i, P.info? e = some i) (base : Option Addr) (n c : Nat) (hc : n ≤ c) (ad : Option Addr) (c2 : Nat) (w : World) :
    (Builtin.append_ #[t, t] ty #[.slice base n c, .slice ad 0 c2]).run P w = .ok (.slice base n c) w := by
  have ht' : P.underlying t = some (.slice e) := ht
  cases ad with
  | none => cases base <;> simp [Builtin.append_, run_underlying ht', hs.run, Builtin.lenOf, Builtin.firstCells, hc, storeCells]
  | some a => cases base <;> simp [Builtin.append_, run_underlying ht', hs.run, Builtin.lenOf, Builtin.firstCells, hc, storeCells, loadCells, loadCellsFrom]
theorem AOp_append_own {t e sz by_ : Nat} {s x : Operand} (zs : List Value) (k : Nat) (xs ys : List AV) (tk : Tok) (hs : st.opd s = .sl (.own k) xs) (hx : st.opd x = .sl tk ys) (hh : st.heap[k]? = some (.tok e sz xs.length))
    (ht : SliceT P t e) (hsz : SzOf P e sz) (hby : BytesOf P e by_) (hz : ZeroOf P e zs) (hz0 : zs.length = sz) (hpos : 0 < sz) (hux : Uni sz xs) (huy : Uni sz ys) (hcell : ∀ c, c ∈ flat ys → c.isCell = true)
    (hbound : (xs.length + ys.length) * by_ ≤ 140737488355328) (h63 : xs.length + ys.length ≤ 9223372036854775807)
    (k' : K (.sl (.own k) (xs ++ ys)) (st.heap.set k (.tok e sz (xs.length + ys.length)))) :
    AOp P ro ⟨dst, .call { callee := .builtin .append, args := #[s, x], argTypes := #[t, t] }, ty, pos, after, guard⟩ K st :=
  AOp_value (fun ρ => semAt_of (fun c => by simp) ro ρ) fun C a hg hH hsr => by
    have h1 := hsr.opd s
    have h2 := hsr.opd x
    rw [hs] at h1
    rw [hx] at h2
    obtain ⟨ad1, c1, e1, hc1, htok, olds, hol, horel, hocell⟩ := sl_values h1
    obtain ⟨ad2, c2, e2, hc2, _, news, hnl, hnrel, hncell⟩ := sl_values h2
    have hfx := flat_length hux
    have hfy := flat_length huy
    have hrunE : ∀ v w', (Builtin.append_ #[t, t] ty #[a.eval s, a.eval x]).run P C.w = .ok v w' → (execOp a.eval ⟨dst, .call { callee := .builtin .append, args := #[s, x], argTypes := #[t, t] }, ty, pos, after, guard⟩).run P C.w = .ok (.value v) w' := fun v w' h => by
      simp [execOp, resolve, invoke, builtin, h]
    rw [e1, e2] at hrunE
    have hhC : C.H[k]? = some (.tok e sz xs.length) := by rw [hH]; exact hh
    obtain ⟨e', sz', len', hk', _, hr⟩ := htok
    rw [hhC] at hk'
    injection hk' with hk'; injection hk' with q1 q2 q3
    subst q1 q2 q3
    obtain ⟨cur, rfl, hb, hcm, hcs⟩ := hr rfl
    obtain ⟨cur2, hb2, hS, hfit⟩ := hg.obj k _ hhC
    rw [hb] at hb2
    injection hb2 with hb2; injection hb2 with hb2 _ _
    subst hb2
    obtain ⟨i, z, hi, i1, i2, i3, i4⟩ := info_of hsz hby hz
    by_cases hm : ys.length = 0
    · have hy : ys = [] := List.eq_nil_of_length_eq_zero hm
      subst hy
      refine ⟨C, _, .sl (.own k) xs, hrunE _ _ (append_none_run ht hsz ⟨i, hi⟩ _ _ _ hc1 _ _ _), hg, Ext.refl C, by rw [← e1]; exact h1, ?_⟩
      have : C.H = st.heap.set k (.tok e sz (xs.length + ([] : List AV).length)) := by
        rw [hH]; apply List.ext_getElem?; intro j; rw [List.getElem?_set]
        by_cases hj : k = j
        · subst hj; have := (List.getElem?_eq_some_iff.1 hh).1; simp [this, hh] at *; exact hh
        · simp [hj]
      rw [this]; simpa using k'
    · have hflne : flat ys ≠ [] := fun he => by rw [he] at hfy; have := Nat.mul_pos (Nat.pos_of_ne_zero hm) hpos; simp at hfy; omega
      obtain ⟨b2, o2, rfl, hnc2⟩ := hncell hflne
      have hones := ones_of (by omega) hnrel hcell
      have hnl' : news.length = ys.length * i.size := by rw [hnl, hfy, i1]
      have hlt : xs.length < xs.length + ys.length := by omega
      have hmulsum : (xs.length + ys.length) * sz = xs.length * sz + ys.length * sz := Nat.add_mul _ _ _
      have hflapp : flat (xs ++ ys) = flat xs ++ flat ys := by unfold flat; rw [List.flatMap_append]
      by_cases hroom : xs.length + ys.length ≤ c1
      · have hfit2 : (xs.length + ys.length) * sz ≤ cur.size := by rw [hcs]; exact Nat.mul_le_mul_right _ hroom
        have hr := run_append_room (P := P) C.w t ty e i ht hi (C.μ k) xs.length c1 cur hb ⟨b2, o2, none⟩ ys.length c2 news hnl' hnc2 hones hroom (by rw [i1]; omega)
        obtain ⟨cur', hcur'⟩ : ∃ cur', cur' = (splice cur.toList (xs.length * sz) news).toArray := ⟨_, rfl⟩
        have hspl : xs.length * sz + news.length ≤ cur.toList.length := by simp; omega
        have hr' : (Builtin.append_ #[t, t] ty #[.slice (some ⟨C.μ k, 0, none⟩) xs.length c1, .slice (some ⟨b2, o2, none⟩) ys.length c2]).run P C.w = .ok (.slice (some ⟨C.μ k, 0, none⟩) (xs.length + ys.length) c1) (C.w.setRow (C.μ k) cur') := by
          rw [hr, hcur', i1]; rfl
        have hcs' : cur'.size = cur.size := by rw [hcur']; simp only [List.size_toArray]; rw [splice_length hspl]; simp
        have hget : ∀ j, cur'[j]? = if j < xs.length * sz then cur[j]? else if j < xs.length * sz + news.length then news[j - xs.length * sz]? else cur[j]? := fun j => by
          rw [hcur', List.getElem?_toArray, splice_get hspl j]; simp
        obtain ⟨hg', hx'⟩ := step_tok_in hg k hhC hb hS (setRow_heap_eq hb) ⟨rfl, rfl, rfl, by first | exact Nat.le_refl _ | exact Nat.le_add_right _ _⟩ hcs' (fun o ho => by rw [hget, if_pos ho]) hlt hfit2 rfl
        refine ⟨_, _, .sl (.own k) (xs ++ ys), hrunE _ _ hr', hg', hx', ?_, by rw [← hH] at k'; exact k'⟩
        have hmlt := hg.lt k _ hhC (by simp [AObj.kind])
        have hkl : k < C.H.length := (List.getElem?_eq_some_iff.1 hhC).1
        refine VRel.newSl (cur := cur') (e := e) (fr := (0, 0)) ?_ (by simp) hroom ?_ ?_ ?_ _ ?_
        · show (C.w.setRow (C.μ k) cur').heap[C.μ k]? = _
          rw [setRow_heap_eq hb]; simp [hmlt]
        · rw [hflapp, List.length_append, hfx, hfy]; show _ ≤ if _ then _ else _; rw [if_pos rfl]; omega
        · rw [hflapp, List.length_append, hfx, hfy, hcs']; omega
        · intro j hj hj'
          simp only [hflapp] at hj ⊢
          have hgj := hget j
          rw [Array.getElem?_eq_getElem hj'] at hgj
          rw [List.length_append, hfx, hfy] at hj
          by_cases h : j < xs.length * sz
          · rw [List.getElem_append_left (by omega)]
            rw [if_pos h, Array.getElem?_eq_getElem (by omega)] at hgj
            injection hgj with hgj
            rw [hgj]
            have h4 := horel j (by omega) (by omega)
            have hne : flat xs ≠ [] := fun he => by rw [he] at hfx; simp at hfx; omega
            obtain ⟨b, o, hbo, hoc⟩ := hocell hne
            have h5 := hoc j _ (List.getElem?_eq_getElem (by omega))
            injection hbo with hbo; injection hbo with q1 q2 q3
            subst q1 q2
            rw [add_mk] at h5
            have hjc : j < cur.size := by omega
            simp [World.cell?, hb, hjc] at h5
            rw [h5]; exact h4.ext hx'
          · rw [List.getElem_append_right (by omega)]
            rw [if_neg h, if_pos (by omega), List.getElem?_eq_getElem (by omega)] at hgj
            injection hgj with hgj
            rw [hgj]
            have := hnrel (j - xs.length * sz) (by omega) (by omega)
            simp only [hfx]; exact this.ext hx'
        · refine ⟨e, sz, xs.length + ys.length, ?_, by simp, fun _ => ⟨cur', rfl, ?_, hcm, by rw [hcs', hcs]⟩⟩
          · show (C.H.set k _)[k]? = _; rw [List.getElem?_set, if_pos rfl]; simp [hkl]
          · show (C.w.setRow (C.μ k) cur').heap[C.μ k]? = _
            rw [setRow_heap_eq hb]; simp [hmlt]
      ·
        have hlo : olds.length = xs.length * i.size := by rw [hol, hfx, i1]
        have hold' : ∀ j u, olds[j]? = some u → C.w.cell? ((⟨C.μ k, 0, none⟩ : Addr).add j) = some u := fun j u hu => by
          have hne : flat xs ≠ [] := fun he => by rw [he] at hol; rw [List.eq_nil_of_length_eq_zero hol] at hu; simp at hu
          obtain ⟨b, o, hbo, hoc⟩ := hocell hne
          injection hbo with hbo
          rw [hbo]; exact hoc j u hu
        have hgr := run_append_grow (P := P) (ty := ty) C.w t e i z ht hi i3 ⟨C.μ k, 0, none⟩ xs.length c1 olds hlo hold' ⟨b2, o2, none⟩ ys.length c2 news hnl' hnc2 (by omega) (by omega) (growslice_fits (by omega) (by rw [i2]; exact hbound))
        obtain ⟨cap, hcap⟩ : ∃ cap, cap = grownCap C.w (xs.length + ys.length) c1 e := ⟨_, rfl⟩
        have hcge : xs.length + ys.length ≤ cap := by rw [hcap]; exact grownCap_ge _ _ _ _
        have hcle : cap ≤ maxLen := by rw [hcap]; exact grownCap_le_maxLen _ _ _ _ (by simp only [maxLen]; omega)
        rw [← hcap] at hgr
        obtain ⟨cur', hcur'⟩ : ∃ cur', cur' = olds.toArray ++ news.toArray ++ Builtin.zeroCells z.cells (cap - (xs.length + ys.length)) := ⟨_, rfl⟩
        rw [← hcur'] at hgr
        have hzs : z.cells.size = sz := by rw [← hz0, ← i4]; simp
        have hcs' : cur'.size = cap * sz := by
          rw [hcur']; simp only [Array.size_append, List.size_toArray, size_zeroCells, hzs, hlo, hnl', i1, ← Nat.add_mul]
          congr 1; omega
        have hfit2 : (xs.length + ys.length) * sz ≤ cur'.size := by rw [hcs']; exact Nat.mul_le_mul_right _ hcge
        obtain ⟨hg', hx'⟩ := step_tok_move hg k (w' := C.w.drew.alloc (.cells cur' e)) hhC rfl ⟨rfl, rfl, rfl, by first | exact Nat.le_refl _ | exact Nat.le_add_right _ _⟩ hlt hfit2 rfl
        refine ⟨_, _, .sl (.own k) (xs ++ ys), hrunE _ _ hgr, hg', hx', ?_, by rw [← hH] at k'; exact k'⟩
        have hkl : k < C.H.length := (List.getElem?_eq_some_iff.1 hhC).1
        have hblk : (C.w.drew.alloc (.cells cur' e)).heap[C.w.heap.size]? = some (.cells cur' e (0, 0)) := heap_alloc_new C.w.drew _
        refine VRel.newSl (cur := cur') (e := e) (fr := (0, 0)) hblk (by simp) hcge ?_ ?_ ?_ _ ?_
        · rw [hflapp, List.length_append, hfx, hfy]; show _ ≤ if _ then _ else _; rw [if_pos rfl]; omega
        · rw [hflapp, List.length_append, hfx, hfy]; omega
        · intro j hj hj'
          simp only [hflapp] at hj ⊢
          rw [List.length_append, hfx, hfy] at hj
          have hol2 : olds.length = xs.length * sz := by rw [hlo, i1]
          have hnl2 : news.length = ys.length * sz := by rw [hnl', i1]
          have hgj : cur'[j]? = (olds ++ news)[j]? := by
            rw [hcur', Array.getElem?_append_left (by simp; omega)]
            simp
          rw [Array.getElem?_eq_getElem hj'] at hgj
          by_cases h : j < xs.length * sz
          · rw [List.getElem_append_left (by omega)]
            rw [List.getElem?_append_left (by omega), List.getElem?_eq_getElem (by omega)] at hgj
            injection hgj with hgj
            rw [hgj]; exact (horel j (by omega) (by omega)).ext hx'
          · rw [List.getElem_append_right (by omega)]
            rw [List.getElem?_append_right (by omega), List.getElem?_eq_getElem (by omega)] at hgj
            injection hgj with hgj
            rw [hgj]
            have := hnrel (j - xs.length * sz) (by omega) (by omega)
            simp only [hfx, hol2]; exact this.ext hx'
        · refine ⟨e, sz, xs.length + ys.length, ?_, by simp, fun _ => ⟨cur', ?_, ?_, hcle, hcs'⟩⟩
          · show (C.H.set k _)[k]? = _; rw [List.getElem?_set, if_pos rfl]; simp [hkl]
          · simp
          · show (C.w.drew.alloc (.cells cur' e)).heap[if k = k then _ else _]? = _; rw [if_pos rfl]; exact hblk
theorem step_newS (n : Nat) {C : Ctx} (hg : Good C) (o : AObj) (ob : Obj) (w' : World) (hw : w'.heap = C.w.heap.push ob) (so : SameOut C.w w') (hk : o.kind ≠ 6)
    {C' : Ctx} (hC : C' = ⟨fun b => if b = C.w.heap.size then n else C.S b, fun k => if k = C.H.length then C.w.heap.size else C.μ k, C.H ++ [o], w'⟩) (hor : Ext C C' → ORel C' C.H.length o) : Good C' ∧ Ext C C' := by
  subst hC
  have hold : ∀ k (o' : AObj), C.H[k]? = some o' → k < C.H.length := fun k o' h => (List.getElem?_eq_some_iff.1 h).1
  have hH : ∀ k (o' : AObj), C.H[k]? = some o' → (C.H ++ [o])[k]? = some o' := fun k o' h => by rw [List.getElem?_append_left (hold k o' h)]; exact h
  have hmu : ∀ k, k < C.H.length → (if k = C.H.length then C.w.heap.size else C.μ k) = C.μ k := fun k h => by rw [if_neg (by omega)]
  have hheap : ∀ b, b < C.w.heap.size → w'.heap[b]? = C.w.heap[b]? := fun b hb => by rw [hw]; exact get_push _ _ _ hb
  have hnew : ∀ k (o' : AObj), (C.H ++ [o])[k]? = some o' → (k < C.H.length ∧ C.H[k]? = some o') ∨ (k = C.H.length ∧ o' = o) := fun k o' h => by
    rcases Nat.lt_or_ge k C.H.length with h' | h'
    · rw [List.getElem?_append_left h'] at h; exact .inl ⟨h', h⟩
    · rw [List.getElem?_append_right h'] at h
      have : k - C.H.length = 0 := by
        rcases Nat.eq_zero_or_pos (k - C.H.length) with e | e
        · exact e
        · rw [List.getElem?_eq_none (by simp; omega)] at h; cases h
      rw [this] at h
      exact .inr ⟨by omega, by simpa using h.symm⟩
  have he : Ext C ⟨fun b => if b = C.w.heap.size then n else C.S b, fun k => if k = C.H.length then C.w.heap.size else C.μ k, C.H ++ [o], w'⟩ := by
    refine ⟨so.os, so.tape, so.output, so.drawn, ?_, fun b => (by show C.S b ≤ if b = C.w.heap.size then n else C.S b; split; (rename_i h; rw [hg.fresh b (by omega)]; exact Nat.zero_le _); exact Nat.le_refl _), ?_, ?_, ?_, ?_, ?_, ?_, ?_, ?_⟩
    · show C.w.heap.size ≤ w'.heap.size; rw [hw]; simp
    · intro b q hq; exact cell_eq (hheap b (hg.S_lt hq))
    · intro b hb _; exact hheap b hb
    · intro k o' hk' hd
      rcases hnew k o' hk' with ⟨h1, h2⟩ | ⟨h1, h2⟩
      · exact .inr ⟨k, o', h2, hd, (hmu k h1).symm⟩
      · left; show C.w.heap.size ≤ if k = C.H.length then C.w.heap.size else C.μ k; rw [if_pos h1]; exact Nat.le_refl _
    · intro k o' h; exact ⟨o', hH k o' h, fun _ => rfl⟩
    · intro k o' h _ _; exact hmu k (hold k o' h)
    · intro k e sz len h; exact ⟨len, hH k _ h, Nat.le_refl _, fun _ => ⟨hmu k (hold k _ h), fun cur hc => ⟨cur, by rw [hheap _ (hg.lt k _ h (by simp [AObj.kind]))]; exact hc, rfl⟩⟩⟩
    · intro k ver es h; exact ⟨ver, es, hH k _ h, Nat.le_refl _, fun _ => ⟨rfl, hheap _ (hg.lt k _ h (by simp [AObj.kind]))⟩⟩
    · intro k e sz vs h; exact ⟨vs, hH k _ h, Nat.le_refl _, fun _ => ⟨hmu k (hold k _ h), fun cur hc => ⟨cur, by rw [hheap _ (hg.lt k _ h (by simp [AObj.kind]))]; exact hc, rfl⟩⟩⟩
  refine ⟨⟨?_, ?_, ?_, ?_, hg.tab.ext he⟩, he⟩
  · intro k o' h
    rcases hnew k o' h with ⟨h1, h2⟩ | ⟨h1, h2⟩
    · by_cases hd : o'.kind = 6
      · cases o' <;> first | trivial | (simp [AObj.kind] at hd)
      · have hlt := hg.lt k o' h2 hd; exact ORel.ext he (hmu k h1) (hheap _ hlt) (by show (if _ then _ else _) = _; rw [if_neg (by omega)]) (hg.obj k o' h2)
    · subst h1; subst h2; exact hor he
  · intro k o' h hd
    show (if k = C.H.length then C.w.heap.size else C.μ k) < w'.heap.size
    rw [hw]
    rcases hnew k o' h with ⟨h1, h2⟩ | ⟨h1, h2⟩
    · rw [if_neg (by omega)]; have := hg.lt k o' h2 hd; simp; omega
    · rw [if_pos h1]; simp
  · intro j k o1 o2 h1 h2 d1 d2 hmm
    simp only at hmm
    rcases hnew j o1 h1 with ⟨a1, a2⟩ | ⟨a1, a2⟩ <;> rcases hnew k o2 h2 with ⟨b1, b2⟩ | ⟨b1, b2⟩
    · rw [hmu j a1, hmu k b1] at hmm; exact hg.inj j k o1 o2 a2 b2 d1 d2 hmm
    · rw [hmu j a1, if_pos b1] at hmm; have := hg.lt j o1 a2 d1; omega
    · rw [hmu k b1, if_pos a1] at hmm; have := hg.lt k o2 b2 d2; omega
    · omega
  · intro b hb
    have hb' : C.w.heap.size < b := by have h : w'.heap.size ≤ b := hb; rw [hw] at h; simp at h; omega
    show (if b = C.w.heap.size then n else C.S b) = 0
    rw [if_neg (by omega)]; exact hg.fresh b (by omega)
theorem AOp_append_zero0 {t e sz by_ : Nat} {s x : Operand} (zs : List Value) (tk : Tok) (hs : st.opd s = .sl .zero []) (hx : st.opd x = .sl tk [])
    (ht : SliceT P t e) (hsz : SzOf P e sz) (hby : BytesOf P e by_) (hz : ZeroOf P e zs) (k' : K (.sl .zero []) st.heap) :
    AOp P ro ⟨dst, .call { callee := .builtin .append, args := #[s, x], argTypes := #[t, t] }, ty, pos, after, guard⟩ K st :=
  AOp_pure _ (fun c => by simp) (fun C a hg hH hsr => by
    have h1 := hsr.opd s
    have h2 := hsr.opd x
    rw [hs] at h1
    rw [hx] at h2
    obtain ⟨ad1, c1, e1, hc1, htok, _⟩ := sl_values h1
    obtain ⟨ad2, c2, e2, hc2, _⟩ := sl_values h2
    obtain ⟨i, z, hi, _⟩ := info_of hsz hby hz
    obtain ⟨_, rfl⟩ := htok
    refine ⟨a.eval s, ?_, h1⟩
    have := append_none_run (P := P) (ty := ty) ht hsz ⟨i, hi⟩ ad1 0 0 (Nat.le_refl _) ad2 c2 C.w
    simp only [List.length_nil] at e1 e2
    simp [execOp, resolve, invoke, builtin, e1, e2, this]) k'
theorem AOp_append_zero {t e sz by_ : Nat} {s x : Operand} (zs : List Value) (ys : List AV) (tk : Tok) (hs : st.opd s = .sl .zero []) (hx : st.opd x = .sl tk ys)
    (ht : SliceT P t e) (hsz : SzOf P e sz) (hby : BytesOf P e by_) (hz : ZeroOf P e zs) (hz0 : zs.length = sz) (hpos : 0 < sz) (huy : Uni sz ys) (hcell : ∀ c, c ∈ flat ys → c.isCell = true) (hne : ys ≠ [])
    (hbound : ys.length * by_ ≤ 140737488355328) (h63 : ys.length ≤ 9223372036854775807)
    (k' : K (.sl (.own st.heap.length) ys) (st.heap ++ [.tok e sz ys.length])) :
    AOp P ro ⟨dst, .call { callee := .builtin .append, args := #[s, x], argTypes := #[t, t] }, ty, pos, after, guard⟩ K st :=
  AOp_value (fun ρ => semAt_of (fun c => by simp) ro ρ) fun C a hg hH hsr => by
    have h1 := hsr.opd s
    have h2 := hsr.opd x
    rw [hs] at h1
    rw [hx] at h2
    obtain ⟨ad1, c1, e1, hc1, htok, _⟩ := sl_values h1
    obtain ⟨ad2, c2, e2, hc2, _, news, hnl, hnrel, hncell⟩ := sl_values h2
    obtain ⟨_, rfl⟩ := htok
    have hfy := flat_length huy
    have hm : 0 < ys.length := List.length_pos_iff.2 hne
    have hflne : flat ys ≠ [] := fun he => by rw [he] at hfy; have := Nat.mul_pos hm hpos; simp at hfy; omega
    obtain ⟨b2, o2, rfl, hnc2⟩ := hncell hflne
    obtain ⟨i, z, hi, i1, i2, i3, i4⟩ := info_of hsz hby hz
    have hnl' : news.length = ys.length * i.size := by rw [hnl, hfy, i1]
    obtain ⟨cap, hcap⟩ : ∃ cap, cap = grownCap C.w ys.length 0 e := ⟨_, rfl⟩
    have hcge : ys.length ≤ cap := by rw [hcap]; exact grownCap_ge _ _ _ _
    have hcle : cap ≤ maxLen := by rw [hcap]; exact grownCap_le_maxLen _ _ _ _ (by simp only [maxLen]; omega)
    obtain ⟨cur', hcur'⟩ : ∃ cur', cur' = news.toArray ++ Builtin.zeroCells z.cells (cap - ys.length) := ⟨_, rfl⟩
    have hrun : (Builtin.append_ #[t, t] ty #[.slice ad1 0 0, .slice (some ⟨b2, o2, none⟩) ys.length c2]).run P C.w = .ok (.slice (some ⟨C.w.heap.size, 0, none⟩) ys.length cap) (C.w.drew.alloc (.cells cur' e)) := by
      cases ad1 with
      | none =>
        have := run_append_nil (P := P) (ty := ty) C.w t e i z ht hi i3 ⟨b2, o2, none⟩ ys.length c2 news hnl' hnc2 hm (by omega) (by rw [i2]; omega)
        rw [this, hcur', hcap]
      | some a1 =>
        have := run_append_grow (P := P) (ty := ty) C.w t e i z ht hi i3 a1 0 0 [] (by simp) (fun j u hu => by simp at hu) ⟨b2, o2, none⟩ ys.length c2 news hnl' hnc2 (by omega) (by omega) (growslice_fits (by omega) (by rw [i2]; simpa using hbound))
        simp only [Nat.zero_add] at this
        rw [this, hcur', hcap]; simp
    have hzs : z.cells.size = sz := by rw [← hz0, ← i4]; simp
    have hcs' : cur'.size = cap * sz := by
      rw [hcur']; simp only [Array.size_append, List.size_toArray, size_zeroCells, hzs, hnl', i1, ← Nat.add_mul]
      congr 1; omega
    have hfit2 : ys.length * sz ≤ cur'.size := by rw [hcs']; exact Nat.mul_le_mul_right _ hcge
    obtain ⟨hg', hx'⟩ := step_newS (ys.length * sz) hg (.tok e sz ys.length) (.cells cur' e) (C.w.drew.alloc (.cells cur' e)) rfl ⟨rfl, rfl, rfl, by first | exact Nat.le_refl _ | exact Nat.le_add_right _ _⟩ (by simp [AObj.kind]) rfl (fun _ => by
      refine ⟨cur', ?_, ?_, hfit2⟩
      · simp only [if_true]; exact heap_alloc_new C.w.drew _
      · simp)
    refine ⟨_, .slice (some ⟨C.w.heap.size, 0, none⟩) ys.length cap, .sl (.own st.heap.length) ys, ?_, hg', hx', ?_, by rw [← hH] at k' ⊢; exact k'⟩
    · simp only [List.length_nil] at e1
      simp only [execOp, resolve, invoke, builtin, List.map_toArray, List.map_cons, List.map_nil, Sem.run_bind, Sem.run_pure, Result.andThen_ok, e1, e2, hrun]
    · have hblk : (C.w.drew.alloc (.cells cur' e)).heap[C.w.heap.size]? = some (.cells cur' e (0, 0)) := heap_alloc_new C.w.drew _
      refine VRel.newSl (cur := cur') (e := e) (fr := (0, 0)) hblk rfl hcge ?_ ?_ ?_ _ ?_
      · rw [hfy]; show _ ≤ if _ then _ else _; rw [if_pos rfl]; omega
      · rw [hfy]; omega
      · intro j hj hj'
        have hgj : cur'[j]? = news[j]? := by
          rw [hcur', Array.getElem?_append_left (by simp; omega)]; simp
        rw [Array.getElem?_eq_getElem hj', List.getElem?_eq_getElem (by omega)] at hgj
        injection hgj with hgj
        rw [hgj]; exact (hnrel j hj (by omega)).ext hx'
      · refine ⟨e, sz, ys.length, by simp [hH], by simp, fun _ => ⟨cur', ?_, ?_, hcle, hcs'⟩⟩
        · simp [hH]
        · simp only [hH, if_true]; exact hblk
end Ab
namespace Ab
open Go
variable {P : Program} {ro : Option Nat} {H0 : List AObj} {Q : Exit → ASt → Prop} {st : ASt}
def wrt (ops : Array Oper) (t : Nat) : Option Nat := (List.range ops.size).find? fun j => match ops[j]? with
  | some o => o.dst == some t
  | none => false
def afterOn (o : Oper) : List Nat := (o.after.toList.filter (Region.binds .any)).map (·.on)
def aft (ops : Array Oper) (i : Nat) : List Nat := match ops[i]? with
  | some o => afterOn o
  | none => []
def effOf (eff : List (Option Nat)) (i : Nat) : Option Nat := eff.getD i none
def possible (ops : Array Oper) (eff : List (Option Nat)) (i : Nat) (s : List Bool) : Bool :=
  (List.range ops.size).all fun j => match effOf eff j with
    | none => true
    | some k => (!(aft ops i).contains j || s.getD k false) && (!(aft ops j).contains i || !s.getD k false) && (j != i || !s.getD k false) &&
      (!s.getD k false || (aft ops j).all fun j' => match effOf eff j' with | none => true | some k' => s.getD k' false)
def bitsL : Nat → List (List Bool)
  | 0 => [[]]
  | n + 1 => (bitsL n).flatMap fun l => [false :: l, true :: l]
theorem mem_bitsL : ∀ (m : Nat) (s : List Bool), s.length = m → s ∈ bitsL m
  | 0, [], _ => by simp [bitsL]
  | 0, _ :: _, h => by simp at h
  | n + 1, [], h => by simp at h
  | n + 1, b :: s, h => by
    have := mem_bitsL n s (by simpa using h)
    simp only [bitsL, List.mem_flatMap]
    exact ⟨s, this, by cases b <;> simp⟩
def drawOk (ops : Array Oper) (eff : List (Option Nat)) (m : Nat) (pairs : List (Nat × List Bool × List Bool)) : Bool :=
  ((List.range ops.size).all fun i => match ops[i]? with
    | none => false
    | some o => (match o.dst with | some d => wrt ops d == some i | none => true) &&
      ((o.looksAt ops).all fun t => match wrt ops t with | some j => (afterOn o).contains j | none => true) &&
      ((afterOn o).all fun j => decide (j < i)) &&
      ((bitsL m).all fun s => !possible ops eff i s || pairs.any fun p => p.1 == i && p.2.1 == s && (o.looksAt ops).all fun t => p.2.2.getD t true) &&
      (match effOf eff i with
        | some k => decide (k < m) && ((List.range ops.size).all fun j => effOf eff j != some k || j == i)
        | none => true)) &&
  (pairs.all fun p => match ops[p.1]? with
    | some o => (p.2.2.zipIdx.all fun q => !q.1 || (o.looksAt ops).contains q.2)
    | none => false) &&
  ((List.range m).all fun k => (List.range ops.size).any fun i => effOf eff i == some k)
def putAll : List Oper → List AV → List AV → List AV
  | o :: os, v :: vs, l => putAll os vs (match o.dst with | some d => l.set d v | none => l)
  | _, _, l => l
def DStep (P : Program) (ro : Option Nat) (ops : Array Oper) (fin : List AV) (stages : List Bool → List AObj) (eff : List (Option Nat)) (vals : List AV) (i : Nat) (s mask : List Bool) : Prop :=
  ∀ o, ops[i]? = some o →
    (AWant ops o ⟨keepM mask fin, stages s⟩ = some true ∧ AOp P ro o (fun v h' => v = vals.getD i .junk ∧ h' = stages (match effOf eff i with | some k => s.set k true | none => s)) ⟨keepM mask fin, stages s⟩) ∨
    (AWant ops o ⟨keepM mask fin, stages s⟩ = some false ∧ vals.getD i .junk = .lit undef ∧ effOf eff i = none)
def cur (ops : Array Oper) (vals : List AV) (listed : Array Bool) (base : List AV) : List AV :=
  base.mapIdx fun t v => match wrt ops t with
    | some j => if listed.getD j false = true then vals.getD j .junk else v
    | none => v
theorem wrt_some {ops : Array Oper} {t j : Nat} (h : wrt ops t = some j) : ∃ o, ops[j]? = some o ∧ o.dst = some t ∧ j < ops.size := by
  unfold wrt at h
  have h1 := List.find?_some h
  have h2 := List.mem_of_find?_eq_some h
  cases ho : ops[j]? with
  | none => simp [ho] at h1
  | some o => simp [ho] at h1; exact ⟨o, rfl, h1, by simpa using h2⟩
section
variable {ops : Array Oper} {eff : List (Option Nat)} {m : Nat} {pairs : List (Nat × List Bool × List Bool)}
structure OkAt (ops : Array Oper) (eff : List (Option Nat)) (m : Nat) (pairs : List (Nat × List Bool × List Bool)) (i : Nat) (o : Oper) : Prop where
  dst : ∀ d, o.dst = some d → wrt ops d = some i
  looks : ∀ t, t ∈ o.looksAt ops → ∀ j, wrt ops t = some j → j ∈ afterOn o
  before : ∀ j, j ∈ afterOn o → j < i
  pair : ∀ s : List Bool, s.length = m → possible ops eff i s = true → ∃ mask, (i, s, mask) ∈ pairs ∧ ∀ t, t ∈ o.looksAt ops → mask.getD t true = true
  eff : ∀ k, effOf eff i = some k → k < m ∧ ∀ j, j < ops.size → effOf eff j = some k → j = i
theorem drawOk_at (h : drawOk ops eff m pairs = true) {i : Nat} {o : Oper} (ho : ops[i]? = some o) : OkAt ops eff m pairs i o := by
  unfold drawOk at h
  rw [Bool.and_eq_true, Bool.and_eq_true] at h
  have hi := (Array.getElem?_eq_some_iff.1 ho).1
  have h1 := List.all_eq_true.1 h.1.1 i (by simpa using hi)
  simp only [ho, Bool.and_eq_true] at h1
  obtain ⟨⟨⟨⟨a, b⟩, c⟩, d⟩, e⟩ := h1
  refine ⟨fun dd hd => ?_, fun t ht j hj => ?_, fun j hj => ?_, fun s hs hp => ?_, fun k hk => ?_⟩
  · rw [hd] at a; simpa using a
  · have := List.all_eq_true.1 b t ht
    rw [hj] at this
    simpa using this
  · have := List.all_eq_true.1 c j hj
    simpa using this
  · have := List.all_eq_true.1 d s (mem_bitsL m s hs)
    rw [hp] at this
    simp only [Bool.not_true, Bool.false_or, List.any_eq_true, Bool.and_eq_true, beq_iff_eq] at this
    obtain ⟨⟨p1, p2, p3⟩, hp1, ⟨e1, e2⟩, e3⟩ := this
    simp only at e1 e2 e3
    subst e1 e2
    exact ⟨p3, hp1, fun t ht => List.all_eq_true.1 e3 t ht⟩
  · rw [hk] at e
    simp only [Bool.and_eq_true, decide_eq_true_eq] at e
    obtain ⟨e1, e3⟩ := e
    refine ⟨e1, fun j hj hjk => ?_⟩
    have := List.all_eq_true.1 e3 j (by simpa using hj)
    rw [hjk] at this
    simpa using this
theorem mask_looks (h : drawOk ops eff m pairs = true) {i : Nat} {s mask : List Bool} {o : Oper} (ho : ops[i]? = some o) (hp : (i, s, mask) ∈ pairs) : ∀ t, mask[t]? = some true → t ∈ o.looksAt ops := by
  unfold drawOk at h
  rw [Bool.and_eq_true, Bool.and_eq_true] at h
  have h1 := List.all_eq_true.1 h.1.2 _ hp
  simp only [ho] at h1
  intro t ht
  have hlt := (List.getElem?_eq_some_iff.1 ht).1
  have := List.all_eq_true.1 h1 (true, t) (by
    rw [List.mem_zipIdx_iff_getElem?]; exact ht)
  simpa using this
theorem drawOk_all (h : drawOk ops eff m pairs = true) {k : Nat} (hk : k < m) : ∃ i, i < ops.size ∧ effOf eff i = some k := by
  unfold drawOk at h
  rw [Bool.and_eq_true, Bool.and_eq_true] at h
  have h1 := List.all_eq_true.1 h.2 k (by simpa using hk)
  rw [List.any_eq_true] at h1
  obtain ⟨i, hi, he⟩ := h1
  exact ⟨i, by simpa using hi, by simpa using he⟩
end
theorem keepM_get : ∀ (mask : List Bool) (l : List AV), mask.length = l.length → ∀ i (h : i < (keepM mask l).length) (h' : i < l.length), (keepM mask l)[i] = if mask.getD i true = true then l[i] else .junk
  | [], [], _, i, h, _ => by simp [keepM] at h
  | true :: bs, v :: vs, hl, 0, _, _ => by simp [keepM]
  | false :: bs, v :: vs, hl, 0, _, _ => by simp [keepM]
  | true :: bs, v :: vs, hl, i + 1, h, h' => by simp only [keepM, List.getElem_cons_succ, List.getD_cons_succ]; exact keepM_get bs vs (by simpa using hl) i _ _
  | false :: bs, v :: vs, hl, i + 1, h, h' => by simp only [keepM, List.getElem_cons_succ, List.getD_cons_succ]; exact keepM_get bs vs (by simpa using hl) i _ _
theorem keepM_length : ∀ (mask : List Bool) (l : List AV), mask.length = l.length → (keepM mask l).length = l.length
  | [], [], _ => rfl
  | true :: bs, v :: vs, h => by simp only [keepM, List.length_cons, keepM_length bs vs (by simpa using h)]
  | false :: bs, v :: vs, h => by simp only [keepM, List.length_cons, keepM_length bs vs (by simpa using h)]
def allCur (ops : Array Oper) (vals : List AV) (base : List AV) : List AV := base.mapIdx fun t v => match wrt ops t with
  | some j => vals.getD j .junk
  | none => v
theorem putAll_get (vals : List AV) : ∀ (os : List Oper) (k : Nat) (l : List AV) (t : Nat), os.length + k = vals.length → (∀ (a b : Nat) (o o' : Oper), os[a]? = some o → os[b]? = some o' → o.dst ≠ none → o.dst = o'.dst → a = b) →
    (putAll os (vals.drop k) l)[t]? = match (List.range os.length).find? (fun j => match os[j]? with | some o => o.dst == some t | none => false) with
      | some j => if t < l.length then some (vals.getD (k + j) .junk) else none
      | none => l[t]?
  | [], k, l, t, _, _ => by simp [putAll]
  | o :: os, k, l, t, hl, hd => by
    simp only [List.length_cons] at hl
    have hk : k < vals.length := by omega
    rw [List.drop_eq_getElem_cons hk]
    simp only [putAll]
    have ih := putAll_get vals os (k + 1) (match o.dst with | some d => l.set d vals[k] | none => l) t (by omega) (fun a b o1 o2 h1 h2 h3 h4 => by
      have := hd (a + 1) (b + 1) o1 o2 (by simpa using h1) (by simpa using h2) h3 h4
      omega)
    rw [ih]
    have hlen : (match o.dst with | some d => l.set d vals[k] | none => l).length = l.length := by cases o.dst <;> simp
    rw [hlen]
    rw [List.length_cons, List.range_succ_eq_map, List.find?_cons, List.find?_map]
    simp only [List.getElem?_cons_zero]
    by_cases h0 : o.dst = some t
    · have hnone : (List.range os.length).find? (fun j => match os[j]? with | some o => o.dst == some t | none => false) = none := by
        rw [List.find?_eq_none]
        intro j hj
        cases hoj : os[j]? with
        | none => simp
        | some o' =>
          simp only [beq_iff_eq]
          intro he
          have := hd 0 (j + 1) o o' (by simp) (by simpa using hoj) (by rw [h0]; simp) (by rw [h0, he])
          omega
      rw [hnone]
      simp only [h0, beq_self_eq_true, Nat.add_zero]
      rw [List.getElem?_set]
      by_cases ht : t < l.length
      · simp [ht, List.getD, hk]
      · simp [ht]
    · have hb : (o.dst == some t) = false := by simpa using h0
      simp only [hb]
      have hcomp : ((fun j => match (o :: os)[j]? with | some o => o.dst == some t | none => false) ∘ Nat.succ) = (fun j => match os[j]? with | some o => o.dst == some t | none => false) := by
        funext j; simp
      rw [hcomp]
      cases hf : (List.range os.length).find? (fun j => match os[j]? with | some o => o.dst == some t | none => false) with
      | none =>
        simp only [Option.map_none]
        cases hdst : o.dst with
        | none => rfl
        | some d => simp only; rw [List.getElem?_set, if_neg (fun e => h0 (by rw [hdst, e]))]
      | some j => simp only [Option.map_some]; rw [show k + 1 + j = k + Nat.succ j by omega]
theorem putAll_all {vals base : List AV} {ops : Array Oper} (hlen : vals.length = ops.size) (hd : ∀ (i : Nat) (o : Oper) (d : Nat), ops[i]? = some o → o.dst = some d → wrt ops d = some i) : putAll ops.toList vals base = allCur ops vals base := by
  apply List.ext_getElem?
  intro t
  have h := putAll_get vals ops.toList 0 base t (by simp; omega) (fun a b o o' h1 h2 h3 h4 => by
    simp at h1 h2
    cases hdst : o.dst with
    | none => exact absurd hdst h3
    | some d =>
      have e1 := hd a o d h1 hdst
      have e2 := hd b o' d h2 (by rw [← h4, hdst])
      rw [e1] at e2; injection e2)
  simp only [List.drop_zero, Nat.zero_add] at h
  rw [h]
  have hw : (List.range ops.toList.length).find? (fun j => match ops.toList[j]? with | some o => o.dst == some t | none => false) = wrt ops t := by
    unfold wrt; simp
  rw [hw]
  unfold allCur
  rw [List.getElem?_mapIdx]
  cases hwt : wrt ops t with
  | none => cases hb : base[t]? <;> simp [hwt]
  | some j =>
    by_cases ht : t < base.length
    · simp [ht, hwt]
    · simp [ht]
theorem cur_set {ops : Array Oper} {vals : List AV} {listed : Array Bool} {base : List AV} {i : Nat} {o : Oper} (ho : ops[i]? = some o) (hsz : listed.size = ops.size) (hd : ∀ d, o.dst = some d → wrt ops d = some i) :
    cur ops vals (listed.setIfInBounds i true) base = (match o.dst with | some d => (cur ops vals listed base).set d (vals.getD i .junk) | none => cur ops vals listed base) := by
  have hi := (Array.getElem?_eq_some_iff.1 ho).1
  have hlen : ∀ l, (cur ops vals l base).length = base.length := fun l => by simp [cur]
  apply List.ext_getElem?
  intro t
  have hcur : ∀ l : Array Bool, (cur ops vals l base)[t]? = (base[t]?).map fun v => match wrt ops t with | some j => if l.getD j false = true then vals.getD j .junk else v | none => v := fun l => by
    unfold cur; rw [List.getElem?_mapIdx]
  have hget : ∀ j, j ≠ i → (listed.setIfInBounds i true).getD j false = listed.getD j false := fun j hj => getD_set_ne false (Ne.symm hj)
  have hgi : (listed.setIfInBounds i true).getD i false = true := by have : i < listed.size := by omega
                                                                     simp [this]
  rw [hcur]
  cases hdst : o.dst with
  | none =>
    simp only
    rw [hcur]
    cases hw : wrt ops t with
    | none => rfl
    | some j =>
      obtain ⟨o', ho', hd', _⟩ := wrt_some hw
      have : j ≠ i := fun e => by subst e; rw [ho] at ho'; injection ho' with ho'; subst ho'; rw [hdst] at hd'; cases hd'
      simp only [hget j this]
  | some d =>
    simp only
    rw [List.getElem?_set, hlen]
    have hwd := hd d hdst
    by_cases hdt : d = t
    · subst hdt
      rw [if_pos rfl, hwd]
      simp only [hgi, if_true]
      by_cases hl : d < base.length
      · simp [hl]
      · simp [hl]
    · rw [if_neg hdt, hcur]
      cases hw : wrt ops t with
      | none => rfl
      | some j =>
        obtain ⟨o', ho', hd', _⟩ := wrt_some hw
        have : j ≠ i := fun e => by subst e; rw [ho] at ho'; injection ho' with ho'; subst ho'; rw [hdst] at hd'; injection hd' with hd'; exact hdt hd'
        simp only [hget j this]
theorem count_set {n : Nat} {listed : Array Bool} {i : Nat} (hi : i < n) (hsz : listed.size = n) (hl : listed.getD i false = false) :
    ((List.range n).countP fun j => !listed.getD j false) = ((List.range n).countP fun j => !(listed.setIfInBounds i true).getD j false) + 1 := by
  have key : ∀ (l : List Nat), l.Nodup → i ∈ l → (l.countP fun j => !listed.getD j false) = (l.countP fun j => !(listed.setIfInBounds i true).getD j false) + 1 := by
    intro l
    induction l with
    | nil => intro _ h; cases h
    | cons j l ih =>
      intro hn hm
      have hn' := List.nodup_cons.1 hn
      by_cases hji : j = i
      · subst hji
        have hno : (l.countP fun k => !listed.getD k false) = (l.countP fun k => !(listed.setIfInBounds j true).getD k false) := by
          apply List.countP_congr
          intro k hk
          have : j ≠ k := fun e => hn'.1 (e ▸ hk)
          rw [getD_set_ne false this]
        have hgi : (listed.setIfInBounds j true).getD j false = true := by have : j < listed.size := by omega
                                                                           simp [this]
        rw [List.countP_cons, List.countP_cons, hno, hl, hgi]; simp
      · have hm' : i ∈ l := by rcases List.mem_cons.1 hm with h | h; · exact absurd h.symm hji
                               · exact h
        have := ih hn'.2 hm'
        rw [List.countP_cons, List.countP_cons, getD_set_ne false (Ne.symm hji), this]; omega
  exact key _ List.nodup_range (by simpa using hi)
theorem AW_draw {id : Nat} {ops : Array Oper} (vals : List AV) (stages : List Bool → List AObj) (eff : List (Option Nat)) (m : Nat) (pairs : List (Nat × List Bool × List Bool)) (fin : List AV) (hfin : putAll ops.toList vals st.slots = fin)
    (hm : P.follows .mixedOrders = true) (hok : drawOk ops eff m pairs = true) (hlen : vals.length = ops.size) (hmask : ∀ p, p ∈ pairs → p.2.2.length = st.slots.length) (h0 : st.heap = stages (List.replicate m false))
    (hstep : ∀ p, p ∈ pairs → DStep P ro ops fin stages eff vals p.1 p.2.1 p.2.2) (hQ : Q .normal { st with slots := fin, heap := stages (List.replicate m true) }) : AW P ro H0 (.region id ops true) Q st := by
  have hfin' : fin = allCur ops vals st.slots := by rw [← hfin]; exact putAll_all hlen (fun i o d ho hd => (drawOk_at hok ho).dst d hd)
  have hfl : fin.length = st.slots.length := by rw [hfin']; simp [allCur]
  have main : ∀ (fuel : Nat) (listed : Array Bool) (s : List Bool) (C0 C : Ctx) (a : Act), C0.H = H0 → Good C0 → Ext C0 C → Good C → C.H = stages s → SD C0 C { st with slots := cur ops vals listed st.slots, heap := stages s } a → s.length = m →
      listed.size = ops.size → ((List.range ops.size).countP fun i => !listed.getD i false) = fuel → (∀ j k, j < ops.size → effOf eff j = some k → (listed.getD j false = true ↔ s.getD k false = true)) → (∀ j, listed.getD j false = true → ∀ i, i ∈ aft ops j → listed.getD i false = true) →
      wpAnyIn (F0 ro) 0 P .any ops (post C0 Q) fuel listed a C.w := by
    intro fuel
    have allListed : ∀ listed : Array Bool, listed.size = ops.size → Region.ready .any ops listed = [] → ∀ i, i < ops.size → listed.getD i false = true := by
      intro listed hsz hr i
      induction i using Nat.strongRecOn with
      | _ i ih =>
        intro hi
        cases hl : listed.getD i false with
        | true => rfl
        | false =>
          exfalso
          have ho : ops[i]? = some ops[i] := Array.getElem?_eq_getElem hi
          have hmem : i ∈ Region.ready .any ops listed := by
            rw [mem_ready]
            refine ⟨?_, ops[i], ho, fun e he hb => ?_⟩
            · have : i < listed.size := by omega
              simp [this] at hl ⊢; exact hl
            · have hin : e.on ∈ afterOn ops[i] := by
                unfold afterOn; exact List.mem_map.2 ⟨e, List.mem_filter.2 ⟨by simpa using he, hb⟩, rfl⟩
              have hlt := (drawOk_at hok ho).before _ hin
              exact ih _ hlt (by omega)
          rw [hr] at hmem; cases hmem
    have finish : ∀ (listed : Array Bool) (s : List Bool) (C0 C : Ctx) (a : Act), Ext C0 C → Good C → C.H = stages s → SD C0 C { st with slots := cur ops vals listed st.slots, heap := stages s } a → s.length = m →
        (∀ i, i < ops.size → listed.getD i false = true) → (∀ j k, j < ops.size → effOf eff j = some k → (listed.getD j false = true ↔ s.getD k false = true)) → s = List.replicate m true → post C0 Q .normal a C.w := by
      intro listed s C0 C a hx hg hH hs hsm hall _ hse
      subst hse
      have hcur : cur ops vals listed st.slots = fin := by
        rw [hfin']; unfold cur allCur
        apply List.ext_getElem?
        intro t
        rw [List.getElem?_mapIdx, List.getElem?_mapIdx]
        cases st.slots[t]? with
        | none => rfl
        | some v =>
          simp only [Option.map_some]
          cases hw : wrt ops t with
          | none => rfl
          | some j => simp only [hall j (wrt_some hw).choose_spec.2.2, if_true]
      rw [hcur] at hs
      exact ⟨C, _, rfl, hg, hH, hs, hx, hQ⟩
    have reach : ∀ (listed : Array Bool) (s : List Bool), (∀ i, i < ops.size → listed.getD i false = true) → (∀ j k, j < ops.size → effOf eff j = some k → (listed.getD j false = true ↔ s.getD k false = true)) → s.length = m → s = List.replicate m true := by
      intro listed s hall he hs
      apply List.ext_getElem (by simp [hs])
      intro k h1 h2
      obtain ⟨i, hi, hk⟩ := drawOk_all hok (show k < m by omega)
      have := (he i k hi hk).1 (hall i hi)
      simp [h1] at this
      simp [this]
    induction fuel with
    | zero =>
      intro listed s C0 C a hC0 hg0 hx hg hH hs hsm hsz hcount heff hclo
      have hall : ∀ i, i < ops.size → listed.getD i false = true := fun i hi => by
        have := List.countP_eq_zero.1 hcount i (by simpa using hi)
        simpa using this
      refine ⟨?_, finish listed s C0 C a hx hg hH hs hsm hall heff (reach listed s hall heff hsm)⟩
      rcases hr : Region.ready .any ops listed with _ | ⟨i, r⟩
      · rfl
      · have hi : i ∈ Region.ready .any ops listed := by rw [hr]; simp
        obtain ⟨h1, o, ho, _⟩ := mem_ready.1 hi
        have hio := (Array.getElem?_eq_some_iff.1 ho).1
        have := hall i hio
        have hl : i < listed.size := by omega
        simp [hl] at h1 this
        rw [h1] at this; cases this
    | succ fuel ih =>
      intro listed s C0 C a hC0 hg0 hx hg hH hs hsm hsz hcount heff hclo
      refine ⟨fun hr => ?_, fun i hi => ?_⟩
      · have hall := allListed listed hsz hr
        exact finish listed s C0 C a hx hg hH hs hsm hall heff (reach listed s hall heff hsm)
      obtain ⟨hun, o, ho, hedges⟩ := mem_ready.1 hi
      have hio := (Array.getElem?_eq_some_iff.1 ho).1
      have hun' : listed.getD i false = false := by
        have hl : i < listed.size := by omega
        simp [hl] at hun ⊢; exact hun
      have hok' := drawOk_at hok ho
      have haft : ∀ j, j ∈ afterOn o → listed.getD j false = true := fun j hj => by
        unfold afterOn at hj
        obtain ⟨e, he, rfl⟩ := List.mem_map.1 hj
        obtain ⟨he1, he2⟩ := List.mem_filter.1 he
        exact hedges e (by simpa using he1) he2
      have hai : aft ops i = afterOn o := by unfold aft; rw [ho]
      have hposs : possible ops eff i s = true := by
        unfold possible
        refine List.all_eq_true.2 fun j hj => ?_
        have hj' : j < ops.size := by simpa using hj
        cases hk : effOf eff j with
        | none => rfl
        | some k =>
          have hiff := heff j k hj' hk
          have hiff' : s.getD k false = false ↔ listed.getD j false = false := by
            rw [← Bool.not_eq_true, ← Bool.not_eq_true, hiff]
          simp only [Bool.and_eq_true, Bool.or_eq_true, Bool.not_eq_true', bne_iff_ne]
          refine ⟨⟨⟨?_, ?_⟩, ?_⟩, ?_⟩
          · by_cases h : (aft ops i).contains j = true
            · right; exact hiff.1 (haft j (by rw [← hai]; simpa using h))
            · left; simpa using h
          · by_cases h : (aft ops j).contains i = true
            · right
              rw [hiff']
              cases hl : listed.getD j false with
              | false => rfl
              | true => have := hclo j hl i (by simpa using h); rw [hun'] at this; cases this
            · left; simpa using h
          · by_cases h : j = i
            · right; rw [hiff', h]; exact hun'
            · left; exact h
          · cases hb : s.getD k false with
            | false => exact .inl rfl
            | true =>
              right
              refine List.all_eq_true.2 fun j' hj2 => ?_
              cases hk' : effOf eff j' with
              | none => rfl
              | some k' =>
                have hl := hclo j (hiff.2 hb) j' hj2
                have hj3 : j' < ops.size := by
                  rcases Nat.lt_or_ge j' ops.size with h | h
                  · exact h
                  · have : ¬ j' < listed.size := by omega
                    simp [this] at hl
                exact (heff j' k' hj3 hk').1 hl
      obtain ⟨mask, hpm, hml⟩ := hok'.pair s hsm hposs
      have hlook := mask_looks hok ho hpm
      have hmlen : mask.length = fin.length := by rw [hfl]; exact hmask _ hpm
      have hslots : (cur ops vals listed st.slots).length = st.slots.length := by simp [cur]
      have hsM : SRel C ⟨keepM mask fin, stages s⟩ a := by
        refine ⟨by rw [hs.size, keepM_length _ _ hmlen, hfl]; exact hslots, fun t h1 h2 => ?_⟩
        have ht : t < fin.length := by rw [keepM_length _ _ hmlen] at h1; exact h1
        have hg1 := keepM_get mask fin hmlen t h1 ht
        simp only at h1 ⊢
        rw [hg1]
        by_cases hmt : mask.getD t true = true
        · rw [if_pos hmt]
          have hmt' : mask[t]? = some true := by
            have hl : t < mask.length := by omega
            simp [List.getD, hl] at hmt
            simp [hl, hmt]
          have htl := hlook t hmt'
          have hrel := hs.slot t (by rw [show ({ st with slots := cur ops vals listed st.slots, heap := stages s } : ASt).slots = cur ops vals listed st.slots from rfl, hslots, ← hfl]; exact ht) h2
          have hbt : t < st.slots.length := by rw [← hfl]; exact ht
          have e : (cur ops vals listed st.slots)[t]'(by rw [hslots]; exact hbt) = fin[t] := by
            have e1 : (cur ops vals listed st.slots)[t]? = fin[t]? := by
              rw [hfin']; unfold cur allCur
              rw [List.getElem?_mapIdx, List.getElem?_mapIdx]
              cases st.slots[t]? with
              | none => rfl
              | some v =>
                simp only [Option.map_some]
                cases hw : wrt ops t with
                | none => rfl
                | some j => simp only [haft j (hok'.looks t htl j hw), if_true]
            rw [List.getElem?_eq_getElem (by rw [hslots]; exact hbt), List.getElem?_eq_getElem ht] at e1
            injection e1
          have hrel' : VRel C ((cur ops vals listed st.slots)[t]'(by rw [hslots]; exact hbt)) a.tmps[t] := hrel
          rw [e] at hrel'
          exact hrel'
        · rw [if_neg hmt]; exact .junk _
      have next : ∀ (C' : Ctx) (v : AV) (x : Value), Good C' → Ext C C' → VRel C' v x → v = vals.getD i .junk → C'.H = stages (match effOf eff i with | some k => s.set k true | none => s) →
          wpAnyIn (F0 ro) 0 P .any ops (post C0 Q) fuel (listed.setIfInBounds i true) (a.put o.dst x) C'.w := by
        intro C' v x hg' hx' hv hve hH'
        subst hve
        have hle : (match effOf eff i with | some k => s.set k true | none => s).length = m := by
          cases effOf eff i <;> simp [hsm]
        refine ih (listed.setIfInBounds i true) _ C0 C' (a.put o.dst x) hC0 hg0 (hx.trans hx') hg' hH' ?_ hle (by simp [hsz]) ?_ ?_ ?_
        · have h0d : DefOk C0 C' (a.put o.dst x) := (hs.defok.ext hx').act (by cases o.dst <;> rfl)
          have h1 := ((hs.toSRel.ext hx' (heap' := stages (match effOf eff i with | some k => s.set k true | none => s))).put o.dst hv)
          have hc := cur_set (vals := vals) (listed := listed) (base := st.slots) ho hsz hok'.dst
          rw [hc]
          cases hd : o.dst with
          | none => rw [hd] at h1 h0d; exact ⟨h1, h0d⟩
          | some d => rw [hd] at h1 h0d; exact ⟨h1, h0d⟩
        · have := count_set hio hsz hun'
          omega
        · intro j k hj hk
          have hself : (listed.setIfInBounds i true).getD i false = true := by have : i < listed.size := by omega
                                                                               simp [this]
          by_cases hji : j = i
          · subst hji
            obtain ⟨h1, _⟩ := hok'.eff k hk
            rw [hk]
            have hks : k < s.length := by omega
            simp [hself, hks]
          · rw [getD_set_ne false (Ne.symm hji)]
            rw [heff j k hj hk]
            cases hki : effOf eff i with
            | none => exact Iff.rfl
            | some k' =>
              obtain ⟨h1, h3⟩ := hok'.eff k' hki
              have hne : k' ≠ k := fun e => hji (h3 j hj (by rw [hk, e]))
              show _ ↔ (s.set k' true).getD k false = true
              simp [List.getD, List.getElem?_set, hne]
        · intro j hj i' hi'
          by_cases hji : j = i
          · subst hji
            rw [hai] at hi'
            exact getD_set_true (haft i' hi')
          · rw [getD_set_ne false (Ne.symm hji)] at hj
            exact getD_set_true (hclo j hj i' hi')
      unfold wpOpIn
      simp only [ho]
      have hst := hstep _ hpm o ho
      have hwant : ∀ b, AWant ops o ⟨keepM mask fin, stages s⟩ = some b → Region.wanted o (yielded ops a.tmps) = b := fun b hb => AWant_spec hsM hb
      rcases hst with ⟨hw, hop⟩ | ⟨hw, hvu, hne⟩
      · rw [hwant _ hw]
        simp only [if_true]
        exact hop C a hg hH hsM _ _ fun C' x v hg' hx' hv ⟨e1, e2⟩ => next C' v x hg' hx' hv e1 e2
      · rw [hwant _ hw]
        simp only [Bool.false_eq_true, if_false]
        refine ⟨fun _ _ => trivial, next C (.lit undef) undef hg (Ext.refl C) (.lit _) hvu.symm ?_⟩
        rw [hne]; exact hH
  intro C0 C a hC0 hg0 hx hg hH hs
  refine wpIn_region_any hm ?_
  obtain ⟨hg', hx'⟩ := step_same hg C.w.drew rfl ⟨rfl, rfl, rfl, by first | exact Nat.le_refl _ | exact Nat.le_add_right _ _⟩
  have hcur0 : cur ops vals (Array.replicate ops.size false) st.slots = st.slots := by
    unfold cur
    apply List.ext_getElem?
    intro t
    rw [List.getElem?_mapIdx]
    cases st.slots[t]? with
    | none => rfl
    | some v =>
      simp only [Option.map_some]
      cases hw : wrt ops t with
      | none => rfl
      | some j => have := (wrt_some hw).choose_spec.2.2; simp [this]
  have hrep : ∀ j, (Array.replicate ops.size false).getD j false = false := fun j => by
    by_cases h : j < ops.size <;> simp [h]
  refine main ops.size (Array.replicate ops.size false) (List.replicate m false) C0 { C with w := C.w.drew } a hC0 hg0 (hx.trans hx') hg' (by show C.H = _; rw [hH, h0]) ?_ (by simp) (by simp) ?_ ?_ ?_
  · rw [hcur0]; exact ⟨hs.toSRel.ext hx', hs.defok.ext hx'⟩
  · rw [List.countP_eq_length.2 (fun j _ => by rw [hrep]; rfl)]; simp
  · intro j k _ _; rw [hrep]; by_cases hkm : k < m <;> simp [List.getD, List.getElem?_replicate, hkm]
  · intro j hj; rw [hrep] at hj; cases hj
end Ab
namespace Ab
open Go
variable {P : Program} {ro : Option Nat} {Q : Exit → ASt → Prop} {st : ASt} {dst : Option Tmp} {ty : TypeId} {pos : String} {after : Array Edge} {guard : Option (Nat × Bool)} {K : AV → List AObj → Prop}
def aget {κ α : Type} [DecidableEq κ] : List (κ × α) → κ → Option α
  | [], _ => none
  | p :: m, k => if p.1 = k then some p.2 else aget m k
def aset {κ α : Type} [DecidableEq κ] : List (κ × α) → κ → α → List (κ × α)
  | [], k, v => [(k, v)]
  | p :: m, k, v => if p.1 = k then (k, v) :: m else p :: aset m k v
def amap {κ α : Type} (ak : κ → AV) (av : α → AV) (m : List (κ × α)) : List (AV × AV) := m.map fun p => (ak p.1, av p.2)
theorem aget_none {κ α : Type} [DecidableEq κ] {k : κ} : ∀ {m : List (κ × α)}, (∀ p, p ∈ m → p.1 ≠ k) → aget m k = none ∧ ∀ v, aset m k v = m ++ [(k, v)]
  | [], _ => ⟨rfl, fun _ => rfl⟩
  | p :: m, h => by
    have h1 := h p (by simp)
    obtain ⟨h2, h3⟩ := aget_none (k := k) (m := m) (fun q hq => h q (by simp [hq]))
    refine ⟨by simp [aget, h1, h2], fun v => by simp [aset, h1, h3]⟩
theorem aget_at {κ α : Type} [DecidableEq κ] {k : κ} : ∀ {m : List (κ × α)} (i : Nat) (h : i < m.length), m[i].1 = k → (∀ j, j < i → (m.map (·.1))[j]? ≠ some k) → aget m k = some m[i].2 ∧ ∀ v, aset m k v = m.set i (k, v)
  | [], i, h, _, _ => absurd h (by simp)
  | p :: m, 0, h, he, _ => by simp at he; refine ⟨by simp [aget, he], fun v => by simp [aset, he]⟩
  | p :: m, i + 1, h, he, hl => by
    have h1 : p.1 ≠ k := fun e => hl 0 (by omega) (by simp [e])
    obtain ⟨h2, h3⟩ := aget_at (k := k) (m := m) i (by simpa using h) (by simpa using he) (fun j hji => by simpa using hl (j + 1) (by omega))
    refine ⟨by simp [aget, h1, h2], fun v => by simp [aset, h1, h3]⟩
structure KeyLaw (P : Program) (kt : TypeId) {κ : Type} [DecidableEq κ] (ak : κ → AV) where
  val : κ → Value
  inv : ∀ C k x, VRel C (ak k) x → x = val k
  rel : ∀ C k, VRel C (ak k) (val k)
  ck : ∀ e k w, (Instr.checkKey e 10000 kt (val k)).run P w = .ok () w
  find : ∀ k (mes : List MapEntry) (ks : List κ), mes.map (·.key) = ks.map val → ∀ w,
    (∃ (i : Nat) (h : i < ks.length) (h' : i < mes.length), ks[i] = k ∧ (∀ j, j < i → ks[j]? ≠ some k) ∧ (Instr.findKey kt (val k) mes).run P w = .ok (some (i, mes[i].val)) w) ∨
    ((∀ k', k' ∈ ks → k' ≠ k) ∧ (Instr.findKey kt (val k) mes).run P w = .ok none w)
  same : ∀ k, Instr.sameBits 10000 (val k) (val k) = true
def ZeroV (P : Program) (t : TypeId) (zv : AV) : Prop := ∃ z, (P.info? t).bind (fun i => i.zero) = some z ∧ ∀ C, VRel C zv z
theorem ZeroV.run {t : TypeId} {zv : AV} (h : ZeroV P t zv) (w : World) : ∃ z, (zeroValue t).run P w = .ok z w ∧ ∀ C, VRel C zv z := by
  obtain ⟨z, hz, hr⟩ := h
  cases hi : P.info? t with
  | none => simp [hi] at hz
  | some i => simp [hi] at hz; exact ⟨z, by simp [zeroValue, typeInfo, hi, hz], hr⟩
theorem ZeroV_of {t : TypeId} (z : Value) (h : (P.info? t).bind (fun i => i.zero) = some z) : ZeroV P t (ofVal z) := ⟨z, h, fun C => VRel.ofVal C z⟩
theorem AOp_makeMap {t : TypeId} (k : K (.map st.heap.length) (st.heap ++ [.map 0 []])) : AOp P ro ⟨dst, .makeMap t none, ty, pos, after, guard⟩ K st :=
  AOp_value (fun ρ => semAt_of (fun c => by simp) ro ρ) fun C a hg hH hs => by
    obtain ⟨hg', he⟩ := step_new hg (.map 0 []) (.map #[] 0) (C.w.alloc (.map #[] 0)) rfl ⟨rfl, rfl, rfl, by first | exact Nat.le_refl _ | exact Nat.le_add_right _ _⟩ (by simp [AObj.kind]) rfl (fun he => by
      refine ⟨#[], 0, ?_, ?_, rfl, ?_, ?_, ?_⟩
      · simp only [if_true]; exact heap_alloc_new _ _
      · simp; exact hg.fresh _ (Nat.le_refl _)
      · intro i hi; simp at hi
      · intro e he; simp at he
      · simp)
    refine ⟨_, .map (some C.w.heap.size), .map st.heap.length, rfl, hg', he, ?_, ?_⟩
    · have := VRel.map (C := { S := C.S, μ := fun k => if k = C.H.length then C.w.heap.size else C.μ k, H := C.H ++ [AObj.map 0 []], w := C.w.alloc (.map #[] 0) }) st.heap.length ⟨.map 0 [], by simp [hH], rfl⟩
      rw [← hH] at this ⊢
      simpa using this
    · rw [← hH] at k ⊢; exact k
section
variable {κ α : Type} [DecidableEq κ] {ak : κ → AV} {kt : TypeId}
theorem map_keys {C : Ctx} (L : KeyLaw P kt ak) {av : α → AV} {m : List (κ × α)} {mes : Array MapEntry} (hsz : mes.size = (amap ak av m).length)
    (hrel : ∀ i (h : i < (amap ak av m).length) (h' : i < mes.size), VRel C (amap ak av m)[i].1 mes[i].key ∧ VRel C (amap ak av m)[i].2 mes[i].val) :
    mes.toList.map (·.key) = (m.map (·.1)).map L.val := by
  have hl : mes.size = m.length := by simpa [amap] using hsz
  apply List.ext_getElem
  · simp [hl]
  · intro i h1 h2
    have hi : i < m.length := by simpa using h2
    have := (hrel i (by simpa [amap] using hi) (by omega)).1
    simp only [amap, List.getElem_map] at this
    simpa using L.inv C _ _ this
theorem lookup_run {C : Ctx} (hg : Good C) (L : KeyLaw P kt ak) (av : α → AV) (m : List (κ × α)) (id ver : Nat) (k : κ) (zv : AV) {t et : TypeId}
    (hh : C.H[id]? = some (.map ver (amap ak av m))) (ht : P.underlying t = some (.map kt et)) (hz : ZeroV P et zv) (ok : Bool) :
    ∃ x, VRel C (((aget m k).map av).getD zv) x ∧ (Instr.lookup t (.map (some (C.μ id))) (L.val k) ok).run P C.w = .ok (if ok then .tuple #[x, .bool (aget m k).isSome] else x) C.w := by
  obtain ⟨mes, clock, g1, g2, g3, g4, g5, g6⟩ := hg.obj id _ hh
  have hkeys := map_keys L g3 g4
  rcases L.find k mes.toList (m.map (·.1)) hkeys C.w with ⟨i, h1, h2, h3, h4, h5⟩ | ⟨h1, h2⟩
  · have hi : i < m.length := by simpa using h1
    obtain ⟨e1, _⟩ := aget_at (k := k) i hi (by simpa using h3) h4
    have hv := (g4 i (by simpa [amap] using hi) (by simpa using h2)).2
    simp only [amap, List.getElem_map] at hv
    refine ⟨(mes[i]'(by simpa using h2)).val, by rw [e1]; exact hv, ?_⟩
    simp only [Instr.lookup, Sem.run_bind, run_underlying ht, MapKept.run_getObj_map g1, Result.andThen_ok, L.ck, h5, Sem.run_pure, e1]
    cases ok <;> simp
  · obtain ⟨e1, _⟩ := aget_none (k := k) (m := m) (fun p hp => h1 p.1 (by simp; exact ⟨p.2, hp⟩))
    obtain ⟨z, hz1, hz2⟩ := hz.run C.w
    refine ⟨z, by rw [e1]; exact hz2 C, ?_⟩
    simp only [Instr.lookup, Sem.run_bind, run_underlying ht, MapKept.run_getObj_map g1, Result.andThen_ok, L.ck, h2, Sem.run_pure, hz1, e1]
    cases ok <;> simp
theorem AOp_lookupOk {t et : TypeId} {x ix : Operand} (L : KeyLaw P kt ak) (av : α → AV) (m : List (κ × α)) (id ver : Nat) (key : κ) (zv : AV) (hx : st.opd x = .map id) (hh : st.heap[id]? = some (.map ver (amap ak av m)))
    (hk : st.opd ix = ak key) (ht : P.underlying t = some (.map kt et)) (hz : ZeroV P et zv) (k : K (.tup [((aget m key).map av).getD zv, .bool (aget m key).isSome]) st.heap) : AOp P ro ⟨dst, .lookup t x ix true, ty, pos, after, guard⟩ K st :=
  AOp_pure _ (fun c => by simp) (fun C a hg hH hs => by
    have h1 := hs.opd x
    have h2 := hs.opd ix
    rw [hx] at h1
    rw [hk] at h2
    have e2 := L.inv C _ _ h2
    generalize hxx : a.eval x = xx at h1
    cases h1 with
    | map _ hkd =>
      obtain ⟨z, hz1, hz2⟩ := lookup_run hg L av m id ver key zv (by rw [hH]; exact hh) ht hz true
      refine ⟨.tuple #[z, .bool (aget m key).isSome], by simp only [execOp, hxx, e2, Sem.run_bind, hz2, Result.andThen_ok]; rfl, .tup _ _ rfl fun i hi => ?_⟩
      match i, hi with
      | 0, _ => exact hz1
      | 1, _ => exact .bool _) k
theorem AOp_mapUpdate {t et : TypeId} {x ix y : Operand} (L : KeyLaw P kt ak) (av : α → AV) (m : List (κ × α)) (id ver : Nat) (key : κ) (v : α) (hx : st.opd x = .map id) (hh : st.heap[id]? = some (.map ver (amap ak av m)))
    (hk : st.opd ix = ak key) (hy : st.opd y = av v) (ht : P.underlying t = some (.map kt et)) (k : K (.lit undef) (st.heap.set id (.map (ver + 1) (amap ak av (aset m key v))))) : AOp P ro ⟨dst, .mapUpdate t x ix y, ty, pos, after, guard⟩ K st :=
  AOp_skipv (fun ρ => semAt_of (fun c => by simp) ro ρ) fun C a hg hH hs => by
    have h1 := hs.opd x
    have h2 := hs.opd ix
    have h3 := hs.opd y
    rw [hx] at h1
    rw [hk] at h2
    rw [hy] at h3
    have e2 := L.inv C _ _ h2
    generalize hxx : a.eval x = xx at h1
    generalize hyy : a.eval y = yy at h3
    cases h1 with
    | map _ hkd =>
      have hhC : C.H[id]? = some (.map ver (amap ak av m)) := by rw [hH]; exact hh
      obtain ⟨mes, clock, g1, g2, g3, g4, g5, g6⟩ := hg.obj id _ hhC
      have hlt := hg.lt id _ hhC (by simp [AObj.kind])
      have hkl : id < C.H.length := (List.getElem?_eq_some_iff.1 hhC).1
      have hkeys := map_keys L g3 g4
      have hml : mes.size = m.length := by simpa [amap] using g3
      have hset : ∀ o', (setObj (C.μ id) o').run P C.w = .ok () (ChangeMaps.setBlock C.w (C.μ id) o') := fun o' => by simp only [setObj, Sem.run, g1, ChangeMaps.setBlock]
      have main : ∀ (mes' : Array MapEntry) (clock' : Nat), (execOp a.eval ⟨dst, .mapUpdate t x ix y, ty, pos, after, guard⟩).run P C.w = .ok .skip (ChangeMaps.setBlock C.w (C.μ id) (.map mes' clock')) →
          (mes'.size = (amap ak av (aset m key v)).length) →
          (∀ i (h : i < (amap ak av (aset m key v)).length) (h' : i < mes'.size), VRel C (amap ak av (aset m key v))[i].1 mes'[i].key ∧ VRel C (amap ak av (aset m key v))[i].2 mes'[i].val) →
          (∀ e, e ∈ mes' → e.born < clock') → mes'.toList.Pairwise (fun a b => a.born ≠ b.born) →
          ∃ C', (execOp a.eval ⟨dst, .mapUpdate t x ix y, ty, pos, after, guard⟩).run P C.w = .ok .skip C'.w ∧ Good C' ∧ Ext C C' ∧ K (.lit undef) C'.H := by
        intro mes' clock' hrun f1 f2 f3 f4
        obtain ⟨hg', he⟩ := step_set hg id (.map ver (amap ak av m)) (.map (ver + 1) (amap ak av (aset m key v))) (.map mes' clock') (ChangeMaps.setBlock C.w (C.μ id) (.map mes' clock')) hhC rfl (by simp [AObj.kind]) (by simp [AObj.kind]) g2 rfl ⟨rfl, rfl, rfl, by first | exact Nat.le_refl _ | exact Nat.le_add_right _ _⟩
          (fun v' es' h => by injection h with h; exact ⟨_, _, rfl, by omega⟩) rfl (fun he => by
            refine ⟨mes', clock', ?_, g2, f1, fun i hi hi' => ⟨(f2 i hi hi').1.ext he, (f2 i hi hi').2.ext he⟩, f3, f4⟩
            simp [ChangeMaps.setBlock, hlt])
        exact ⟨_, hrun, hg', he, by rw [← hH] at k; exact k⟩
      rcases L.find key mes.toList (m.map (·.1)) hkeys C.w with ⟨i, q1, q2, q3, q4, q5⟩ | ⟨q1, q2⟩
      · have hi : i < m.length := by simpa using q1
        have hi' : i < mes.size := by omega
        obtain ⟨_, e3⟩ := aget_at (k := key) i hi (by simpa using q3) q4
        have hkey : mes[i].key = L.val key := by
          have := congrArg (fun l => l[i]?) hkeys
          simp only [List.getElem?_map, Array.getElem?_toList, Array.getElem?_eq_getElem hi', List.getElem?_eq_getElem hi, Option.map_some] at this
          have q3' : m[i].1 = key := by simpa using q3
          rw [q3'] at this
          injection this
        refine main (mes.modify i fun e => { e with key := L.val key, val := yy }) clock ?_ ?_ ?_ ?_ ?_
        · simp only [execOp, hxx, e2, hyy, Instr.mapUpdate, Sem.run_bind, run_underlying ht, MapKept.run_getObj_map g1, Result.andThen_ok, L.ck, q5, Array.getElem?_eq_getElem hi', Option.map_some, Option.getD_some, hkey, Instr.keyThatStays, L.same, if_true, Sem.run_pure]
          rw [hset]; rfl
        · rw [e3]; simp [amap, hml]
        · intro j hj hj'
          rw [e3] at hj
          have hjm : j < m.length := by simpa [amap] using hj
          simp only [e3, amap, List.getElem_map, List.getElem_set, Array.getElem_modify]
          by_cases hij : i = j
          · subst hij; simp only [if_true]; exact ⟨L.rel C _, h3⟩
          · simp only [hij, if_false]
            have := g4 j (by simpa [amap] using hjm) (by omega)
            simpa only [amap, List.getElem_map] using this
        · intro e he
          obtain ⟨j, hj, rfl⟩ := Array.mem_iff_getElem.1 he
          have hjm : j < mes.size := by simpa using hj
          rw [Array.getElem_modify]
          split
          · exact g5 mes[j] (Array.getElem_mem _)
          · exact g5 mes[j] (Array.getElem_mem _)
        · rw [List.pairwise_iff_getElem] at g6 ⊢
          intro p q hp hq hpq
          have hp' : p < mes.toList.length := by simpa using hp
          have hq' : q < mes.toList.length := by simpa using hq
          have := g6 p q hp' hq' hpq
          simp only [Array.getElem_toList, Array.getElem_modify] at this ⊢
          split <;> split <;> exact this
      · obtain ⟨_, e3⟩ := aget_none (k := key) (m := m) (fun p hp => q1 p.1 (by simp; exact ⟨p.2, hp⟩))
        refine main (mes.push { key := L.val key, val := yy, born := clock }) (clock + 1) ?_ ?_ ?_ ?_ ?_
        · simp only [execOp, hxx, e2, hyy, Instr.mapUpdate, Sem.run_bind, run_underlying ht, MapKept.run_getObj_map g1, Result.andThen_ok, L.ck, q2]
          rw [hset]; rfl
        · rw [e3]; simp [amap, hml]
        · intro j hj hj'
          rw [e3] at hj
          have hjm : j < m.length + 1 := by simpa [amap] using hj
          simp only [e3, amap, List.getElem_map, Array.getElem_push]
          by_cases hij : j < m.length
          · rw [dif_pos (by omega), List.getElem_append_left hij]
            have := g4 j (by simpa [amap] using hij) (by omega)
            simpa only [amap, List.getElem_map] using this
          · rw [dif_neg (by omega), List.getElem_append_right (by omega)]
            simp only [List.getElem_singleton]; exact ⟨L.rel C _, h3⟩
        · intro e he
          rcases Array.mem_push.1 he with h | rfl
          · have := g5 e h; omega
          · simp
        · rw [Array.toList_push, List.pairwise_append]
          refine ⟨g6, by simp, fun p hp q hq => ?_⟩
          simp only [List.mem_singleton] at hq
          subst hq
          have := g5 p (by simpa using hp)
          simp only; omega
end
theorem AOp_range_map {t kt et : TypeId} {x : Operand} (id ver : Nat) (es : List (AV × AV)) (hx : st.opd x = .map id) (hh : st.heap[id]? = some (.map ver es)) (ht : P.underlying t = some (.map kt et))
    (k : K (.iter st.heap.length) (st.heap ++ [.iter id ver es none])) : AOp P ro ⟨dst, .range t x, ty, pos, after, guard⟩ K st :=
  AOp_value (fun ρ => semAt_of (fun c => by simp) ro ρ) fun C a hg hH hs => by
    have h1 := hs.opd x
    rw [hx] at h1
    generalize hxx : a.eval x = xx at h1
    cases h1 with
    | map _ hkd =>
      have hhC : C.H[id]? = some (.map ver es) := by rw [hH]; exact hh
      obtain ⟨mes, clock, g1, g2, g3, g4, g5, g6⟩ := hg.obj id _ hhC
      have hlt := hg.lt id _ hhC (by simp [AObj.kind])
      have hkl : id < C.H.length := (List.getElem?_eq_some_iff.1 hhC).1
      have hmu : (if id = C.H.length then C.w.heap.size else C.μ id) = C.μ id := if_neg (by omega)
      obtain ⟨hg', he⟩ := step_new hg (.iter id ver es none) (.mapIter (some (C.μ id)) clock #[] clock) (C.w.alloc (.mapIter (some (C.μ id)) clock #[] clock)) rfl ⟨rfl, rfl, rfl, by first | exact Nat.le_refl _ | exact Nat.le_add_right _ _⟩ (by simp [AObj.kind]) rfl (fun he => by
        refine ⟨by simp; exact hg.fresh _ (Nat.le_refl _), ⟨.map ver es, by rw [List.getElem?_append_left hkl]; exact hhC, rfl⟩, ?_, ?_, ?_⟩
        · rintro e (h | h)
          · obtain ⟨i, hi, rfl⟩ := List.getElem_of_mem h
            exact ⟨⟨_, (g4 i hi (by omega)).1.ext he⟩, ⟨_, (g4 i hi (by omega)).2.ext he⟩⟩
          · cases h
        · intro v es' hv
          simp only at hv
          rw [List.getElem?_append_left hkl, hhC] at hv
          injection hv with hv; injection hv with hv; omega
        · intro es' hv
          simp only at hv
          rw [List.getElem?_append_left hkl, hhC] at hv
          injection hv with hv; injection hv with _ hv; subst hv
          refine ⟨mes, clock, #[], ?_, ?_, mes.toList, ?_, ?_, ?_, fun kv h => by cases h⟩
          · simp only [hmu]
            have := heap_alloc_old C.w (.mapIter (some (C.μ id)) clock #[] clock) hlt
            rw [this]; exact g1
          · simp only [if_true, hmu]; exact heap_alloc_new _ _
          · exact (List.filter_eq_self.2 (fun e _ => by simp)).symm
          · simpa using g3
          · intro i hi hi'
            have := g4 i hi (by simpa using hi')
            exact ⟨by simpa using this.1.ext he, by simpa using this.2.ext he⟩)
      refine ⟨_, .pointer (some ⟨C.w.heap.size, 0, none⟩), .iter st.heap.length, ?_, hg', he, ?_, ?_⟩
      · simp only [execOp, hxx, Sem.run_bind, run_range_map C.w t kt et (C.μ id) mes clock ht g1, Result.andThen_ok]; rfl
      · have := VRel.iter (C := { S := C.S, μ := fun k => if k = C.H.length then C.w.heap.size else C.μ k, H := C.H ++ [AObj.iter id ver es none], w := C.w.alloc (.mapIter (some (C.μ id)) clock #[] clock) }) st.heap.length ⟨.iter id ver es none, by simp [hH], rfl⟩
        rw [← hH] at this ⊢
        simpa using this
      · rw [← hH] at k ⊢; exact k
theorem filter_push_erase {seen : Array Nat} : ∀ (l : List MapEntry) (i : Nat) (h : i < (l.filter fun e => !seen.contains e.born).length), l.Pairwise (fun a b => a.born ≠ b.born) →
    l.filter (fun e => !(seen.push ((l.filter fun e => !seen.contains e.born)[i]).born).contains e.born) = (l.filter fun e => !seen.contains e.born).eraseIdx i := by
  intro l
  induction l with
  | nil => intro i h; simp at h
  | cons e l ih =>
    intro i h hp
    rw [List.pairwise_cons] at hp
    by_cases hs : seen.contains e.born = true
    · have hs' : (!seen.contains e.born) = false := by rw [hs]; rfl
      simp only [List.filter_cons, hs', Bool.false_eq_true, if_false] at h ⊢
      have : (!(seen.push ((l.filter fun e => !seen.contains e.born)[i]).born).contains e.born) = false := by rw [contains_push, hs]; rfl
      rw [this, if_neg (by decide)]
      exact ih i h hp.2
    · have hs0 : seen.contains e.born = false := by simpa using hs
      have hs' : (!seen.contains e.born) = true := by rw [hs0]; rfl
      simp only [List.filter_cons, hs', if_true] at h ⊢
      cases i with
      | zero =>
        simp only [List.getElem_cons_zero, List.eraseIdx_zero, List.tail_cons]
        have : (!(seen.push e.born).contains e.born) = false := by rw [contains_push, beq_self_eq_true, Bool.or_true]; rfl
        rw [this, if_neg (by decide)]
        apply List.filter_congr
        intro x hx
        have := hp.1 x hx
        rw [contains_push]
        have : (x.born == e.born) = false := by simpa using Ne.symm this
        rw [this, Bool.or_false]
      | succ i =>
        simp only [List.getElem_cons_succ, List.eraseIdx_cons_succ]
        have hi : i < (l.filter fun e => !seen.contains e.born).length := by simpa using h
        have hmem : (l.filter fun e => !seen.contains e.born)[i] ∈ l := (List.mem_filter.1 (List.getElem_mem hi)).1
        have hne := hp.1 _ hmem
        have : (!(seen.push ((l.filter fun e => !seen.contains e.born)[i]).born).contains e.born) = true := by
          rw [contains_push, hs0]
          have : (e.born == ((l.filter fun e => !seen.contains e.born)[i]).born) = false := by simpa using hne
          rw [this]; rfl
        rw [this, if_pos rfl, ih i hi hp.2]
theorem AOp_next_map {x : Operand} (kk id ver : Nat) (es left : List (AV × AV)) (last : Option (AV × AV)) (hx : st.opd x = .iter kk) (hk : st.heap[kk]? = some (.iter id ver left last)) (hh : st.heap[id]? = some (.map ver es))
    (kend : left = [] → K (.tup [.bool false]) st.heap)
    (kstep : ∀ i (h : i < left.length), K (.tup [.bool true, left[i].1, left[i].2]) (st.heap.set kk (.iter id ver (left.eraseIdx i) (some left[i])))) : AOp P ro ⟨dst, .next x false, ty, pos, after, guard⟩ K st :=
  AOp_value (fun ρ => semAt_of (fun c => by simp) ro ρ) fun C a hg hH hs => by
    have h1 := hs.opd x
    rw [hx] at h1
    generalize hxx : a.eval x = xx at h1
    cases h1 with
    | iter _ hkd =>
      have hhC : C.H[id]? = some (.map ver es) := by rw [hH]; exact hh
      have hkC : C.H[kk]? = some (.iter id ver left last) := by rw [hH]; exact hk
      obtain ⟨mes0, clock0, g1, g2, g3, g4, g5, g6⟩ := hg.obj id _ hhC
      obtain ⟨hS0, hm, hsc, hle0, hit⟩ := hg.obj kk _ hkC
      obtain ⟨mes, clock, seen, f1, f2, lft, f3, f4, f5, f6⟩ := hit es hhC
      rw [g1] at f1
      injection f1 with f1; injection f1 with f1 f1'; subst f1; subst f1'
      have hlt := hg.lt kk _ hkC (by simp [AObj.kind])
      have hltm := hg.lt id _ hhC (by simp [AObj.kind])
      have hkl : kk < C.H.length := (List.getElem?_eq_some_iff.1 hkC).1
      have hne : kk ≠ id := fun e => by rw [e, hhC] at hkC; cases hkC
      have hmne : C.μ kk ≠ C.μ id := fun e => hne (hg.inj kk id _ _ hkC hhC (by simp [AObj.kind]) (by simp [AObj.kind]) e)
      have hleft : (leftOf mes0 seen).toList = lft := by rw [f3]; simp [leftOf]
      rcases run_next_at (P := P) C.w ty (C.μ kk) (C.μ id) clock0 clock0 seen mes0 clock0 f2 g1 (fun x hx => g5 x (by simpa using hx)) (Nat.le_refl _) with ⟨h0, hrun⟩ | ⟨e, he, w1, hw1, hrun⟩
      · have : left = [] := by
          have h0' : lft.length = 0 := by rw [← hleft]; simpa using h0
          exact List.eq_nil_of_length_eq_zero (by omega)
        refine ⟨C, .tuple #[.bool false], .tup [.bool false], ?_, hg, Ext.refl C, .tup _ _ rfl (fun i hi => ?_), by rw [hH]; exact kend this⟩
        · simp only [execOp, hxx, Sem.run_bind, hrun, Result.andThen_ok]; rfl
        · match i, hi with
          | 0, _ => exact .bool _
      · rw [hleft] at he
        obtain ⟨i, hi, rfl⟩ := List.getElem_of_mem he
        have hil : i < left.length := by omega
        obtain ⟨hg1, he1⟩ := step_same hg w1 (by rcases hw1 with rfl | rfl <;> rfl) (by rcases hw1 with rfl | rfl <;> exact ⟨rfl, rfl, rfl, by first | exact Nat.le_refl _ | exact Nat.le_add_right _ _⟩)
        have hheap1 : w1.heap = C.w.heap := by rcases hw1 with rfl | rfl <;> rfl
        obtain ⟨hg', he'⟩ := step_set hg1 kk (.iter id ver left last) (.iter id ver (left.eraseIdx i) (some left[i])) (.mapIter (some (C.μ id)) clock0 (seen.push lft[i].born) clock0) (ChangeMaps.setBlock w1 (C.μ kk) (.mapIter (some (C.μ id)) clock0 (seen.push lft[i].born) clock0)) hkC rfl (by simp [AObj.kind]) (by simp [AObj.kind]) hS0 rfl ⟨rfl, rfl, rfl, by first | exact Nat.le_refl _ | exact Nat.le_add_right _ _⟩
          (fun v es h => by cases h) rfl (fun he => by
            have hidset : (C.H.set kk (.iter id ver (left.eraseIdx i) (some left[i])))[id]? = C.H[id]? := by rw [List.getElem?_set, if_neg hne]
            refine ⟨hS0, ⟨.map ver es, by simp only [hidset]; exact hhC, rfl⟩, ?_, ?_, ?_⟩
            · rintro e (h | h)
              · have := hsc e (.inl (List.mem_of_mem_eraseIdx h))
                exact ⟨let ⟨x, hx⟩ := this.1; ⟨x, (hx.ext he1).ext he⟩, let ⟨x, hx⟩ := this.2; ⟨x, (hx.ext he1).ext he⟩⟩
              · injection h with h; subst h
                have := f5 i hil hi
                exact ⟨⟨_, (this.1.ext he1).ext he⟩, ⟨_, (this.2.ext he1).ext he⟩⟩
            · intro v es' hv
              simp only [hidset] at hv
              rw [hhC] at hv
              injection hv with hv; injection hv with hv; omega
            · intro es' hv
              refine ⟨mes0, clock0, seen.push lft[i].born, ?_, ?_, lft.eraseIdx i, ?_, ?_, ?_, ?_⟩
              · simp only [ChangeMaps.setBlock, hheap1]
                rw [Array.getElem?_setIfInBounds_ne hmne]; exact g1
              · simp [ChangeMaps.setBlock, hheap1, hlt]
              · subst f3; exact (filter_push_erase mes0.toList i hi g6).symm
              · rw [List.length_eraseIdx_of_lt hi, List.length_eraseIdx_of_lt hil, f4]
              · intro j hj hj'
                rw [List.getElem_eraseIdx, List.getElem_eraseIdx]
                split
                · have := f5 j (by rw [List.length_eraseIdx_of_lt hil] at hj; omega) (by rw [List.length_eraseIdx_of_lt hi] at hj'; omega)
                  exact ⟨(this.1.ext he1).ext he, (this.2.ext he1).ext he⟩
                · have := f5 (j + 1) (by rw [List.length_eraseIdx_of_lt hil] at hj; omega) (by rw [List.length_eraseIdx_of_lt hi] at hj'; omega)
                  exact ⟨(this.1.ext he1).ext he, (this.2.ext he1).ext he⟩
              · intro kv hkv
                injection hkv with hkv; subst hkv
                have := f5 i hil hi
                refine ⟨lft[i], ?_, by simp, (this.1.ext he1).ext he, (this.2.ext he1).ext he⟩
                have : lft[i] ∈ mes0.toList.filter (fun e => !seen.contains e.born) := by rw [← f3]; exact List.getElem_mem hi
                simpa using (List.mem_filter.1 this).1)
        refine ⟨_, .tuple #[.bool true, lft[i].key, lft[i].val], .tup [.bool true, left[i].1, left[i].2], ?_, hg', he1.trans he', .tup _ _ rfl (fun j hj => ?_), by rw [← hH] at kstep; exact kstep i hil⟩
        · simp only [execOp, hxx, Sem.run_bind, hrun, Result.andThen_ok]; rfl
        · have := f5 i hil hi
          match j, hj with
          | 0, _ => exact .bool _
          | 1, _ => exact (this.1.ext he1).ext he'
          | 2, _ => exact (this.2.ext he1).ext he'
theorem AOp_entry_map {x : Operand} (kk id ver : Nat) (es left : List (AV × AV)) (last : AV × AV) (hx : st.opd x = .iter kk) (hk : st.heap[kk]? = some (.iter id ver left (some last))) (hh : st.heap[id]? = some (.map ver es))
    (k : K (.tup [last.1, last.2]) st.heap) : AOp P ro ⟨dst, .entry x, ty, pos, after, guard⟩ K st :=
  AOp_pure _ (fun c => by simp) (fun C a hg hH hs => by
    have h1 := hs.opd x
    rw [hx] at h1
    generalize hxx : a.eval x = xx at h1
    cases h1 with
    | iter _ hkd =>
      have hhC : C.H[id]? = some (.map ver es) := by rw [hH]; exact hh
      have hkC : C.H[kk]? = some (.iter id ver left (some last)) := by rw [hH]; exact hk
      obtain ⟨mes0, clock0, g1, g2, g3, g4, g5, g6⟩ := hg.obj id _ hhC
      obtain ⟨hS0, hm, hsc, hle0, hit⟩ := hg.obj kk _ hkC
      obtain ⟨mes, clock, seen, f1, f2, lft, f3, f4, f5, f6⟩ := hit es hhC
      rw [g1] at f1
      injection f1 with f1; injection f1 with f1 f1'; subst f1; subst f1'
      obtain ⟨e, e1, e2, e3, e4⟩ := f6 last rfl
      obtain ⟨seen', rfl⟩ : ∃ s' : Array Nat, seen = s'.push e.born := by
        refine ⟨seen.pop, ?_⟩
        have hs0 : 0 < seen.size := by
          rcases Nat.eq_zero_or_pos seen.size with h | h
          · rw [Array.eq_empty_of_size_eq_zero h] at e2; cases e2
          · exact h
        have : seen.back?.isSome := by rw [e2]; rfl
        have hb : seen.back = e.born := by
          have := Array.back?_eq_getElem? (xs := seen)
          rw [e2] at this
          rw [Array.back_eq_getElem]
          rw [Array.getElem?_eq_getElem (by omega)] at this
          exact (Option.some.inj this).symm
        rw [← hb]; exact (Array.ext (by simp; omega) (fun i h1 h2 => by
          rw [Array.getElem_push]
          split
          · simp
          · rename_i hh; simp at hh; rw [Array.back_eq_getElem]; congr 1; omega))
      have hn : (mes0.toList.map (·.born)).Nodup := by
        rw [List.Nodup, List.pairwise_map]; exact g6
      have hrun := run_entry_at (P := P) C.w (C.μ kk) (C.μ id) clock0 seen' mes0 clock0 e f2 g1 (by simpa using e1) hn
      refine ⟨.tuple #[e.key, e.val], ?_, .tup _ _ rfl (fun j hj => ?_)⟩
      · simp only [execOp, hxx, Sem.run_bind, hrun, Result.andThen_ok]; rfl
      · match j, hj with
        | 0, _ => exact e3
        | 1, _ => exact e4) k
theorem findNow_of {κ : Type} [DecidableEq κ] (d : TypeDesc) (val : κ → Value) (h : ∀ k k', Instr.sameNow d (val k) (val k') = some (decide (k' = k))) (k : κ) : ∀ (mes : List MapEntry) (ks : List κ) (n : Nat), mes.map (·.key) = ks.map val →
    (∃ (i : Nat) (h : i < ks.length) (h' : i < mes.length), ks[i] = k ∧ (∀ j, j < i → ks[j]? ≠ some k) ∧ Instr.findNow d (val k) mes n = some (some (n + i, mes[i].val))) ∨
    ((∀ k', k' ∈ ks → k' ≠ k) ∧ Instr.findNow d (val k) mes n = some none)
  | [], [], n, _ => .inr ⟨by simp, rfl⟩
  | [], _ :: _, n, he => by simp at he
  | _ :: _, [], n, he => by simp at he
  | e :: mes, k' :: ks, n, he => by
    simp only [List.map_cons, List.cons.injEq] at he
    by_cases hk : k' = k
    · subst hk
      exact .inl ⟨0, by simp, by simp, rfl, fun j hj => absurd hj (by omega), by simp [Instr.findNow, he.1, h]⟩
    · have hs : Instr.findNow d (val k) (e :: mes) n = Instr.findNow d (val k) mes (n + 1) := by simp [Instr.findNow, he.1, h, hk]
      rcases findNow_of d val h k mes ks (n + 1) he.2 with ⟨i, h1, h2, h3, h4, h5⟩ | ⟨h1, h2⟩
      · refine .inl ⟨i + 1, by simpa using h1, by simpa using h2, by simpa using h3, ?_, by rw [hs, h5]; simp only [List.getElem_cons_succ]; congr 3; omega⟩
        intro j hj
        cases j with
        | zero => simpa using hk
        | succ j => simpa using h4 j (by omega)
      · refine .inr ⟨?_, by rw [hs, h2]⟩
        intro q hq
        rcases List.mem_cons.1 hq with rfl | hq
        · exact hk
        · exact h1 q hq
def strKey {kt : TypeId} (h : P.underlying kt = some .string) : KeyLaw P kt (κ := List UInt8) AV.str where
  val s := .string ⟨s.toArray⟩
  inv C k x h := h.str_inv
  rel C k := .str k
  ck e k w := MapKept.run_checkKey h (d := .string) (k := .string ⟨k.toArray⟩) trivial e 9999
  find k mes ks hk w := by
    have hs : ∀ k k' : List UInt8, Instr.sameNow .string (.string ⟨k.toArray⟩) (.string ⟨k'.toArray⟩) = some (decide (k' = k)) := fun k k' => by
      simp only [Instr.sameNow]
      congr 1
      rw [beq_toListBytes, toList_mk, toList_mk, Bool.eq_iff_iff, beq_iff_eq, decide_eq_true_iff]
      exact eq_comm
    rcases findNow_of .string (fun s : List UInt8 => .string ⟨s.toArray⟩) hs k mes ks 0 hk with ⟨i, h1, h2, h3, h4, h5⟩ | ⟨h1, h2⟩
    · exact .inl ⟨i, h1, h2, h3, h4, MapKept.run_findKey h (by rw [h5, Nat.zero_add])⟩
    · exact .inr ⟨h1, MapKept.run_findKey h h2⟩
  same k := MapKept.sameBits_self (d := .string) (k := .string ⟨k.toArray⟩) trivial 10000
end Ab
