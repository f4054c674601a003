/- Part 2 of 5 of a proof. The law DeriveWhole of chapter 05 returns true at every input up to the bound: a whole graph holds every derivation, and none is longer than the longest one. -/
import Derived.Test.YtpgjcbeoipldgaaGreatRd1
import Derived.RangeFuncRecord
import Derived.Laws.StructEq
import Derived.Laws.Externs
import Derived.Lib.Bytealg
import Derived.Carry
import Derived.OpenShut
import Derived.JoinedCond
import Derived.Test.YtpgjcbeoipldgaaGreatRows
import Derived.WalkKit
import Derived.ProofKit
import Derived.Sort.Row
import Derived.Sort.Grow
set_option linter.unusedVariables false
set_option linter.unusedSimpArgs false
namespace Ab
open Go
variable {P : Program} {ro : Option Nat} {H0 : List AObj} {Q : Exit → ASt → Prop} {st : ASt} {dst : Option Tmp} {ty : TypeId} {pos : String} {after : Array Edge} {guard : Option (Nat × Bool)} {K : AV → List AObj → Prop}
def zipPut : List Nat → List AV → List AV → List AV
  | t :: ts, v :: vs, l => zipPut ts vs (l.set t v)
  | _, _, l => l
theorem zipPut_rel {C : Ctx} : ∀ (ps : List Nat) (args : List AV) (vs : List Value) (slots : List AV) (tmps : Array Value), args.length = vs.length → tmps.size = slots.length →
    (∀ i (h : i < slots.length) (h' : i < tmps.size), VRel C slots[i] tmps[i]) → (∀ i (h : i < args.length) (h' : i < vs.length), VRel C args[i] vs[i]) →
    ((ps.zip vs).foldl (fun t (p : Nat × Value) => t.setIfInBounds p.1 p.2) tmps).size = (zipPut ps args slots).length ∧
    ∀ i (h : i < (zipPut ps args slots).length) (h' : i < ((ps.zip vs).foldl (fun t (p : Nat × Value) => t.setIfInBounds p.1 p.2) tmps).size), VRel C (zipPut ps args slots)[i] ((ps.zip vs).foldl (fun t (p : Nat × Value) => t.setIfInBounds p.1 p.2) tmps)[i]
  | [], _, _, slots, tmps, _, hsz, hrel, _ => by simp [zipPut]; exact ⟨hsz, hrel⟩
  | _ :: _, [], [], slots, tmps, _, hsz, hrel, _ => by simp [zipPut]; exact ⟨hsz, hrel⟩
  | _ :: _, [], _ :: _, _, _, hl, _, _, _ => by simp at hl
  | _ :: _, _ :: _, [], _, _, hl, _, _, _ => by simp at hl
  | t :: ts, v :: args, x :: vs, slots, tmps, hl, hsz, hrel, ha => by
    have := zipPut_rel (C := C) ts args vs (slots.set t v) (tmps.setIfInBounds t x) (by simpa using hl) (by simp [hsz]) (fun i h h' => by
      rw [List.getElem_set, Array.getElem_setIfInBounds]
      by_cases e : t = i
      · simp [e]; exact ha 0 (by simp) (by simp)
      · simp [e]; exact hrel i (by simpa using h) (by simpa using h')) (fun i h h' => by have := ha (i + 1) (by simpa using h) (by simpa using h'); simpa only [List.getElem_cons_succ] using this)
    simpa [zipPut] using this
def AYield (P : Program) (id : Nat) (args : List AV) (H : List AObj) (R : AV → List AObj → Prop) : Prop :=
  ∀ C (vs : Array Value), Good C → C.H = H → vs.size = args.length → (∀ i (h : i < args.length) (h' : i < vs.size), VRel C args[i] vs[i]) →
    ∃ r : Loop, C.w.heap[C.μ id]? = some (.loop r) ∧ r.params.size = args.length ∧
      RoundIn Fence.wide 0 P (C.μ id) r.fn ((r.params.zip vs).foldl (fun t (p : Nat × Value) => t.setIfInBounds p.1 p.2) r.tmps) r.assign r.body C.w
        (fun e w' => ∃ v av C', e = .returned v ∧ C'.w = w' ∧ Good C' ∧ Ext C C' ∧ VRel C' av v ∧ R av C'.H)
theorem AYield.mono {id : Nat} {args : List AV} {H : List AObj} {R R' : AV → List AObj → Prop} (h : AYield P id args H R) (hr : ∀ r H', R r H' → R' r H') : AYield P id args H R' := fun C vs hg hH hsz hv => by
  obtain ⟨r, h1, h2, h3⟩ := h C vs hg hH hsz hv
  exact ⟨r, h1, h2, h3.mono fun _ _ ⟨v, av, C', a, b, c, d, e, f⟩ => ⟨v, av, C', a, b, c, d, e, hr _ _ f⟩⟩
theorem AOp_yield {f : Operand} {args : Array Operand} {ats : Array TypeId} (id : Nat) (avs : List AV) (hf : st.opd f = .yld id) (ha : args.toList.map st.opd = avs)
    (h : AYield P id avs st.heap K) : AOp P ro ⟨dst, .call { callee := .value f, args := args, argTypes := ats }, ty, pos, after, guard⟩ K st := fun C a hg hH hs next Qc hn => by
  have hv := hs.opd f
  rw [hf] at hv
  generalize hff : a.eval f = ff at hv
  cases hv with
  | yld _ hk =>
    have hlen : args.size = avs.length := by rw [← ha]; simp
    obtain ⟨r, h1, h2, h3⟩ := h C (args.map a.eval) hg hH (by simp [hlen]) (fun i h1 h2 => by
      have := hs.opd args[i]
      subst ha
      simpa using this)
    have hrun : (execOp a.eval ⟨dst, .call { callee := .value f, args := args, argTypes := ats }, ty, pos, after, guard⟩).run P C.w =
        .ok (.round (C.μ id) r.fn ((r.params.zip (args.map a.eval)).foldl (fun t (p : Nat × Value) => t.setIfInBounds p.1 p.2) r.tmps) r.assign r.body) C.w := by
      have hne : (args.map a.eval).size = r.params.size := by simp [hlen, h2]
      simp only [execOp, resolve, Deferred.ofValue, hff, invoke, Sem.run_bind, Sem.run_pure, Result.andThen_ok, Array.append_empty, Array.empty_append, run_yield h1 hne]
    refine ⟨fun _ _ => trivial, ?_⟩
    show Oper.uponIn (F0 ro) 0 P _ a next Qc ((Oper.semAt ro a.eval _).run P C.w)
    rw [semAt_of (fun c => by simp) ro a.eval, hrun]
    refine ⟨fun hd => by simp [F0, Fence.wide] at hd, ?_⟩
    refine RoundIn.mono (F := F0 ro) h3 ?_
    rintro e w' ⟨v, av, C', rfl, rfl, hg', he, hv', hK⟩
    exact hn C' v av hg' he hv' hK
def roundFin (id m : Nat) (ps : Array Tmp) (assign body : Code) (R : AV → List AObj → Prop) (H : List AObj) (jump : Option Code) (st : ASt) : Prop :=
  ∃ slots stt pend, st.heap[id]? = some (.loop slots stt pend ps assign body) ∧ OutOk H (st.heap.set id (.loop slots (if jump.isNone then .ready else .done) jump ps assign body)) m ∧
    R (.bool jump.isNone) ((st.heap.set id (.loop slots (if jump.isNone then .ready else .done) jump ps assign body)).take m)
def roundK (id m : Nat) (ps : Array Tmp) (assign body : Code) (R : AV → List AObj → Prop) (H : List AObj) : Exit → ASt → Prop
  | .normal, st => roundFin id m ps assign body R H none st
  | .ret, st => roundFin id m ps assign body R H (some .ret) st
  | .exit k, st => roundFin id m ps assign body R H (some (.exit k)) st
  | _, _ => False
theorem step_loop {C : Ctx} (hg : Good C) {id : Nat} {slots : List AV} {stt : LoopState} {pend : Option Code} {ps : Array Tmp} {assign body : Code} (hid : C.H[id]? = some (.loop slots stt pend ps assign body)) :
    ∃ (tmps : Array Value) (fn dk : Nat), C.w.heap[C.μ id]? = some (.loop { state := stt, pending := pend, fn := fn, tmps := tmps, params := ps, assign := assign, body := body, defers := dk }) ∧ tmps.size = slots.length ∧
      (∀ i (h : i < slots.length) (h' : i < tmps.size), VRel C slots[i] tmps[i]) ∧
      ∀ (stt' : LoopState) (pend' : Option Code) (w' : World), w' = C.w.putObj (C.μ id) (.loop { state := stt', pending := pend', fn := fn, tmps := tmps, params := ps, assign := assign, body := body, defers := dk }) →
        Good { C with H := C.H.set id (.loop slots stt' pend' ps assign body), w := w' } ∧ Ext C { C with H := C.H.set id (.loop slots stt' pend' ps assign body), w := w' } := by
  obtain ⟨tmps, fn, dk, h1, h2, h3, h4⟩ := hg.obj id _ hid
  have hlt := hg.lt id _ hid (by simp [AObj.kind])
  refine ⟨tmps, fn, dk, h1, h3, h4, ?_⟩
  rintro stt' pend' w' rfl
  exact step_set hg id _ (.loop slots stt' pend' ps assign body) (.loop { state := stt', pending := pend', fn := fn, tmps := tmps, params := ps, assign := assign, body := body, defers := dk }) (C.w.putObj (C.μ id) (.loop { state := stt', pending := pend', fn := fn, tmps := tmps, params := ps, assign := assign, body := body, defers := dk })) hid rfl (by simp [AObj.kind]) (by simp [AObj.kind]) h2 rfl ⟨rfl, rfl, rfl, by first | exact Nat.le_refl _ | exact Nat.le_add_right _ _⟩
      (fun v es h => by cases h) rfl (fun he => ⟨tmps, fn, dk, by simp [World.putObj, hlt], h2, h3, fun i hi hi' => (h4 i hi hi').ext he⟩)
theorem AYield_intro {id : Nat} {args : List AV} {H : List AObj} {R : AV → List AObj → Prop} {slots : List AV} {pend : Option Code} {ps : Array Tmp} {assign body : Code} (m : Nat)
    (hid : H[id]? = some (.loop slots .ready pend ps assign body)) (hps : ps.size = args.length)
    (h : ∀ l, AW P (some l) H assign (fun e st1 => e = .normal ∧ ∃ slots1 pend1, st1.heap[id]? = some (.loop slots1 .ready pend1 ps assign body) ∧
      AW P (some l) H body (roundK id m ps assign body R H) ⟨st1.slots, st1.heap.set id (.loop slots1 .busy pend1 ps assign body)⟩) ⟨zipPut ps.toList args slots, H⟩) : AYield P id args H R := by
  intro C vs hg hH hsz hv
  have hidC : C.H[id]? = some (.loop slots .ready pend ps assign body) := by rw [hH]; exact hid
  obtain ⟨tmps, fn, dk, h1, h2, h3, h4⟩ := hg.obj id _ hidC
  refine ⟨_, h1, hps, ?_⟩
  simp only
  refine roundIn_of_wpIn (F := Fence.wide) trivial ?_
  have hz := zipPut_rel (C := C) ps.toList args vs.toList slots tmps (by simp [hsz]) h3 h4 (fun i a b => by simpa using hv i a (by simpa using b))
  have hfold : (ps.zip vs).foldl (fun t (p : Nat × Value) => t.setIfInBounds p.1 p.2) tmps = (ps.toList.zip vs.toList).foldl (fun t (p : Nat × Value) => t.setIfInBounds p.1 p.2) tmps := by
    rw [← Array.foldl_toList, Array.toList_zip]
  rw [← hfold] at hz
  have hs0 : SRel C ⟨zipPut ps.toList args slots, H⟩ { tmps := (ps.zip vs).foldl (fun t (p : Nat × Value) => t.setIfInBounds p.1 p.2) tmps, defers := [] } := ⟨hz.1, hz.2⟩
  refine wpIn_mono (h (C.μ id) C C _ hH hg (Ext.refl C) hg hH ⟨hs0, DefOk.nil rfl⟩) ?_
  rintro e a1 w1 ⟨C1, st1, rfl, hg1, hH1, hs1, he1, rfl, slots1, pend1, hid1, hbody⟩
  have hmu : C1.μ id = C.μ id := he1.stay id _ hidC (by simp [AObj.kind]) (by simp [AObj.kind])
  obtain ⟨tmps1, fn1, dk1, b1, b2, b3, b4⟩ := step_loop hg1 (by rw [hH1]; exact hid1)
  obtain ⟨hg2, he2⟩ := b4 .busy pend1 _ rfl
  rw [hmu] at b1
  refine ⟨_, run_beginRound b1 rfl, ?_⟩
  rw [hmu] at hg2 he2
  have hs2 : SD C { C1 with H := C1.H.set id (.loop slots1 .busy pend1 ps assign body), w := C1.w.putObj (C.μ id) (.loop { state := .busy, pending := pend1, fn := fn1, tmps := tmps1, params := ps, assign := assign, body := body, defers := dk1 }) } ⟨st1.slots, st1.heap.set id (.loop slots1 .busy pend1 ps assign body)⟩ a1 :=
    ⟨hs1.toSRel.ext he2, hs1.defok.ext he2⟩
  refine wpIn_mono (hbody C _ a1 hH hg (he1.trans he2) hg2 (by show C1.H.set id _ = _; rw [hH1]) hs2) ?_
  rintro e a2 w2 ⟨C2, st2, rfl, hg3, hH3, hs3, he3, hq⟩
  have fin : ∀ jump, roundFin id m ps assign body R H jump st2 → ∃ v w', (Instr.endRound (C.μ id) jump).run P C2.w = .ok v w' ∧ ∃ v_1 av C', Ending.returned v = .returned v_1 ∧ C'.w = w' ∧ Good C' ∧ Ext C C' ∧ VRel C' av v_1 ∧ R av C'.H := by
    rintro jump ⟨slots3, stt3, pend3, q1, q2, q3⟩
    have hmu2 : C2.μ id = C.μ id := he3.stay id _ hidC (by simp [AObj.kind]) (by simp [AObj.kind])
    obtain ⟨tmps4, fn4, dk4, c1, c2, c3, c4⟩ := step_loop hg3 (by rw [hH3]; exact q1)
    obtain ⟨hg4, he4⟩ := c4 (if jump.isNone then .ready else .done) jump _ rfl
    rw [hmu2] at c1 hg4 he4
    refine ⟨_, _, run_endRound jump c1, .bool jump.isNone, .bool jump.isNone, Ctx.take _ m, rfl, ?_, Good.take hg hg4 ?_, (he3.trans he4).take ?_, .bool _, ?_⟩
    · rfl
    · show OutOk C.H (C2.H.set id _) m; rw [hH, hH3]; exact q2
    · rw [hH]; exact q2.2.1
    · show R _ ((C2.H.set id _).take m); rw [hH3]; exact q3
  cases e with
  | normal => exact fin none hq
  | ret => exact fin (some .ret) hq
  | exit k => exact fin (some (.exit k)) hq
  | _ => exact hq.elim
theorem AW_rangeFunc {g : Operand} {ps : Array Tmp} {assign body : Code} (f : Nat) (caps : List AV) (R : AV → List AObj → Prop) (hgv : st.opd g = .fn f caps) (hok : callOk P f = true)
    (hcall : ACall P f (.yld st.heap.length :: caps) (st.heap ++ [.loop st.slots .ready none ps assign body]) R)
    (hR : ∀ r H', R r H' → ∃ slots1 stt pend, H'[st.heap.length]? = some (.loop slots1 stt pend ps assign body) ∧ stt ≠ .busy ∧
      match pend with
      | none => Q .normal ⟨st.slots, H'.set st.heap.length (.loop slots1 .exhausted none ps assign body)⟩
      | some .ret => Q .ret ⟨st.slots, H'.set st.heap.length (.loop slots1 .exhausted (some .ret) ps assign body)⟩
      | some (.exit k) => Q (.exit k) ⟨st.slots, H'.set st.heap.length (.loop slots1 .exhausted (some (.exit k)) ps assign body)⟩
      | _ => False) : AW P none H0 (.rangeFunc g ps assign body) Q st := by
  intro C0 C a h0 hg0 hx hg hH hs
  refine wpIn_rangeFunc (F := F0 none) fun fn _ => ?_
  have hv := hs.toSRel.opd g
  rw [hgv] at hv
  generalize hff : a.eval g = ff at hv
  cases hv with
  | fn _ _ vs hsz hrel =>
    obtain ⟨hg1, he1⟩ := step_imm hg (.deferred (some [])) 0 (C.w.alloc (.deferred (some []))) rfl ⟨rfl, rfl, rfl, by first | exact Nat.le_refl _ | exact Nat.le_add_right _ _⟩ rfl
    obtain ⟨C1, hC1⟩ : ∃ C1 : Ctx, C1 = ⟨fun b => if b = C.w.heap.size then 0 else C.S b, C.μ, C.H, C.w.alloc (.deferred (some []))⟩ := ⟨_, rfl⟩
    rw [← hC1] at hg1 he1
    have hH1 : C1.H = st.heap := by rw [hC1]; exact hH
    have hw1 : C1.w = C.w.alloc (.deferred (some [])) := by rw [hC1]
    obtain ⟨w2, hw2⟩ : ∃ w2 : World, w2 = C1.w.alloc (.loop { state := .ready, pending := none, fn, tmps := a.tmps, params := ps, assign, body, defers := C.w.heap.size }) := ⟨_, rfl⟩
    obtain ⟨C2, hC2⟩ : ∃ C2 : Ctx, C2 = ⟨C1.S, fun k => if k = C1.H.length then C1.w.heap.size else C1.μ k, C1.H ++ [.loop st.slots .ready none ps assign body], w2⟩ := ⟨_, rfl⟩
    have hs1 : SRel C1 st a := hs.toSRel.ext he1
    obtain ⟨hg2, he2⟩ := step_new hg1 (.loop st.slots .ready none ps assign body) (.loop { state := .ready, pending := none, fn, tmps := a.tmps, params := ps, assign, body, defers := C.w.heap.size }) w2 (by rw [hw2]; rfl) (by rw [hw2]; exact ⟨rfl, rfl, rfl, by first | exact Nat.le_refl _ | exact Nat.le_add_right _ _⟩) (by simp [AObj.kind]) hC2 (fun he => by
      refine ⟨a.tmps, fn, C.w.heap.size, ?_, ?_, hs1.size, fun i hi hi' => (hs1.slot i hi hi').ext he⟩
      · rw [hC2]; simp only [if_true]; rw [hw2]; exact heap_alloc_new _ _
      · rw [hC2]; simp; exact hg1.fresh _ (Nat.le_refl _))
    have hH2 : C2.H = st.heap ++ [.loop st.slots .ready none ps assign body] := by rw [hC2]; show C1.H ++ _ = _; rw [hH1]
    have hl1 : C1.w.heap.size = C.w.heap.size + 1 := by rw [hw1]; show (C.w.heap.push _).size = _; simp
    have hmu2 : C2.μ st.heap.length = C.w.heap.size + 1 := by rw [hC2]; simp [hH1, hl1]
    have hCw2 : C2.w = w2 := by rw [hC2]
    refine ⟨C.w.heap.size + 1, [{ target := .collected C.w.heap.size, args := #[] }], w2, { target := .fn (.func f) vs, args := #[.func (.yield (C.w.heap.size + 1)) #[] #[]] }, w2, f, #[.func (.yield (C.w.heap.size + 1)) #[] #[]] ++ vs, w2, ?_, ?_, fun _ _ => trivial, ?_, fun hd => by simp [F0, Fence.wide] at hd, calls_F0 ?_⟩
    · have := run_enterLoop_outer (P := P) (w := C.w) fn a.tmps ps assign body
      rw [hw2, hw1]; exact this
    · have hc : ∀ v, a.eval (.const v) = v := fun _ => rfl
      simp [rangeCall, resolve, Deferred.ofValue, hff, hc]
    · simp [invoke, callFunc_run hok]
    · rw [← hCw2]
      have hcv := hcall C2 (#[.func (.yield (C.w.heap.size + 1)) #[] #[]] ++ vs) hg2 hH2 (by simp [hsz]; omega) (fun i hi hi' => by
        cases i with
        | zero =>
          have := VRel.yld (C := C2) st.heap.length ⟨.loop st.slots .ready none ps assign body, by rw [hH2]; simp, rfl⟩
          rw [hmu2] at this
          simpa using this
        | succ i =>
          have hi2 : i < caps.length := by simpa using hi
          have := ((hrel i hi2).ext he1).ext he2
          have e : (#[Value.func (.yield (C.w.heap.size + 1)) #[] #[]] ++ vs)[i + 1]'hi' = vs[i]'(hsz ▸ hi2) := by
            rw [Array.getElem_append_right (by simp)]; simp
          rw [e]; simpa using this)
      refine hcv.mono ?_
      rintro e w3 ⟨v, r, C3, rfl, rfl, hg3, he3, hv3, hR3⟩
      obtain ⟨slots1, stt, pend, q1, q2, q3⟩ := hR r C3.H hR3
      have hmu3 : C3.μ st.heap.length = C.w.heap.size + 1 := by
        rw [he3.stay st.heap.length (.loop st.slots .ready none ps assign body) (by rw [hH2]; simp) (by simp [AObj.kind]) (by simp [AObj.kind])]; exact hmu2
      obtain ⟨tmps4, fn4, dk4, c1, c2, c3, c4⟩ := step_loop hg3 q1
      obtain ⟨hg4, he4⟩ := c4 .exhausted pend _ rfl
      rw [hmu3] at c1 hg4 he4
      have hxx : Ext C { C3 with H := C3.H.set st.heap.length (.loop slots1 .exhausted pend ps assign body), w := C3.w.putObj (C.w.heap.size + 1) (.loop { state := .exhausted, pending := pend, fn := fn4, tmps := tmps4, params := ps, assign := assign, body := body, defers := dk4 }) } :=
        ((he1.trans he2).trans he3).trans he4
      have hdef : DefOk C0 { C3 with H := C3.H.set st.heap.length (.loop slots1 .exhausted pend ps assign body), w := C3.w.putObj (C.w.heap.size + 1) (.loop { state := .exhausted, pending := pend, fn := fn4, tmps := tmps4, params := ps, assign := assign, body := body, defers := dk4 }) }
          { a with defers := [{ target := .collected C.w.heap.size, args := #[] }] ++ a.defers } := by
        refine DefOk.ext ?_ (((he2).trans he3).trans he4)
        obtain ⟨D, d1, d2, d3⟩ := hs.defok
        refine ⟨C.w.heap.size :: D, by simp [d1], List.nodup_cons.2 ⟨fun hd => by have := (d3 _ hd).2.1; omega, d2⟩, fun d hd => ?_⟩
        rcases List.mem_cons.1 hd with rfl | hd
        · refine ⟨hx.size, by omega, by rw [hw1]; exact heap_alloc_new _ _, fun k o hk ho e => ?_⟩
          have hk' : C.H[k]? = some o := by rw [hC1] at hk; exact hk
          have he' : C.μ k = C.w.heap.size := by rw [hC1] at e; exact e
          have := hg.lt k o hk' ho; omega
        · obtain ⟨x1, x2, x3, x4⟩ := d3 d hd
          refine ⟨x1, by omega, by rw [hw1, heap_alloc_old _ _ x2]; exact x3, fun k o hk ho => ?_⟩
          have hk' : C.H[k]? = some o := by rw [hC1] at hk; exact hk
          have := x4 k o hk' ho
          rw [hC1]; exact this
      have hsr : SRel { C3 with H := C3.H.set st.heap.length (.loop slots1 .exhausted pend ps assign body), w := C3.w.putObj (C.w.heap.size + 1) (.loop { state := .exhausted, pending := pend, fn := fn4, tmps := tmps4, params := ps, assign := assign, body := body, defers := dk4 }) }
          ⟨st.slots, C3.H.set st.heap.length (.loop slots1 .exhausted pend ps assign body)⟩ { a with defers := [{ target := .collected C.w.heap.size, args := #[] }] ++ a.defers } := by
        have := hs.toSRel.ext hxx (heap' := C3.H.set st.heap.length (.loop slots1 .exhausted pend ps assign body))
        exact ⟨this.size, this.slot⟩
      refine ⟨pend, _, run_endLoop c1 q2, ?_⟩
      have mk : ∀ ee, Q ee ⟨st.slots, C3.H.set st.heap.length (.loop slots1 .exhausted pend ps assign body)⟩ → post C0 Q ee { a with defers := [{ target := .collected C.w.heap.size, args := #[] }] ++ a.defers }
          (C3.w.putObj (C.w.heap.size + 1) (.loop { state := .exhausted, pending := pend, fn := fn4, tmps := tmps4, params := ps, assign := assign, body := body, defers := dk4 })) := fun ee hq =>
        ⟨_, _, rfl, hg4, rfl, ⟨hsr, hdef⟩, hx.trans hxx, hq⟩
      cases pend with
      | none => exact mk .normal q3
      | some c =>
        cases c with
        | ret => exact wpIn_ret (mk .ret q3)
        | exit k => exact wpIn_exit (mk (.exit k) q3)
        | _ => exact q3.elim
variable {β : Type}
def AllNone (nx : List β → β → Option Code) (pre : List β) : Prop := ∀ p x s, pre = p ++ x :: s → nx p x = none
def YieldSeq (P : Program) (id : Nat) (items : List β) (enc : β → List AV) (hp : List β → Option Code → List AObj) (nx : List β → β → Option Code) : Prop :=
  ∀ pre x suf X, items = pre ++ x :: suf → AllNone nx pre → AYield P id (enc x) (hp pre none ++ X) (fun r H' => r = .bool (nx pre x).isNone ∧ H' = hp (pre ++ [x]) (nx pre x) ++ X)
def IterOut (items : List β) (nx : List β → β → Option Code) (hp : List β → Option Code → List AObj) (H' : List AObj) : Prop :=
  (AllNone nx items ∧ H' = hp items none) ∨ ∃ pre x suf c, items = pre ++ x :: suf ∧ AllNone nx pre ∧ nx pre x = some c ∧ H' = hp (pre ++ [x]) (some c)
def IterC (P : Program) (f : Nat) (caps : List AV) (items : List β) (enc : β → List AV) (A : List AObj → Prop) : Prop :=
  ∀ (id n : Nat) (hp : List β → Option Code → List AObj) (nx : List β → β → Option Code), id < n → (∀ p j, (hp p j).length = n) → (∀ p j o, o ∈ hp p j → OScoped n o) → A (hp [] none) →
    YieldSeq P id items enc hp nx → ACall P f (.yld id :: caps) (hp [] none) (fun _ H' => IterOut items nx hp H')
theorem AllNone.nil {nx : List β → β → Option Code} : AllNone nx [] := fun p x s h => by cases p <;> simp at h
theorem AllNone.snoc {nx : List β → β → Option Code} {pre : List β} {x : β} (h : AllNone nx pre) (hx : nx pre x = none) : AllNone nx (pre ++ [x]) := by
  intro p y s he
  rcases List.eq_nil_or_concat s with rfl | ⟨s', z, rfl⟩
  · have := List.append_inj' he (by simp)
    obtain ⟨rfl, h2⟩ := this
    simp at h2; subst h2; exact hx
  · have : pre ++ [x] = (p ++ y :: s') ++ [z] := by simpa using he
    have := List.append_inj' this (by simp)
    exact h p y s' this.1
theorem AW_iter {g : Operand} {ps : Array Tmp} {assign body : Code} {items : List β} {enc : β → List AV} {A : List AObj → Prop} (f : Nat) (caps : List AV) (hit : IterC P f caps items enc A)
    (hb : List β → List AObj) (nx : List β → β → Option Code) (hgv : st.opd g = .fn f caps) (hok : callOk P f = true) (h0 : hb [] = st.heap) (hA : A (st.heap ++ [.loop st.slots .ready none ps assign body])) (hlen : ∀ p, (hb p).length = st.heap.length)
    (hsc0 : ∀ p o, o ∈ hb p → o ∈ st.heap ∨ OScoped st.heap.length o) (hps : ∀ x, ps.size = (enc x).length)
    (round : ∀ pre x suf X l, items = pre ++ x :: suf → AllNone nx pre →
      AW P (some l) (hb pre ++ (.loop st.slots .ready none ps assign body :: X)) assign
        (fun e st1 => e = .normal ∧ ∃ slots1 pend1, st1.heap[st.heap.length]? = some (.loop slots1 .ready pend1 ps assign body) ∧
          AW P (some l) (hb pre ++ (.loop st.slots .ready none ps assign body :: X)) body
            (roundK st.heap.length (st.heap.length + 1 + X.length) ps assign body (fun r H' => r = .bool (nx pre x).isNone ∧ H' = hb (pre ++ [x]) ++ (.loop st.slots (if (nx pre x).isNone then .ready else .done) (nx pre x) ps assign body :: X)) (hb pre ++ (.loop st.slots .ready none ps assign body :: X)))
            ⟨st1.slots, st1.heap.set st.heap.length (.loop slots1 .busy pend1 ps assign body)⟩)
        ⟨zipPut ps.toList (enc x) st.slots, hb pre ++ (.loop st.slots .ready none ps assign body :: X)⟩)
    (hend : AllNone nx items → Q .normal ⟨st.slots, hb items ++ [.loop st.slots .exhausted none ps assign body]⟩)
    (hleft : ∀ pre x suf c, items = pre ++ x :: suf → AllNone nx pre → nx pre x = some c → match c with
      | .ret => Q .ret ⟨st.slots, hb (pre ++ [x]) ++ [.loop st.slots .exhausted (some .ret) ps assign body]⟩
      | .exit k => Q (.exit k) ⟨st.slots, hb (pre ++ [x]) ++ [.loop st.slots .exhausted (some (.exit k)) ps assign body]⟩
      | _ => False) : AW P none H0 (.rangeFunc g ps assign body) Q st := by
  intro C0 C a hC0 hg0 hx hg hH hs
  have hscs : ScopedL st.heap.length st.slots := by
    refine ScopedL_get fun j hj => ?_
    have := (hs.slot j hj (by rw [hs.size]; exact hj)).scop
    rw [hH] at this; exact this
  have hsc : ∀ p o, o ∈ hb p → OScoped st.heap.length o := fun p o ho => by
    rcases hsc0 p o ho with h | h
    · obtain ⟨i, hi, rfl⟩ := List.getElem_of_mem h
      have := hg.scop (k := i) (by rw [hH]; exact List.getElem?_eq_getElem hi)
      rw [hH] at this; exact this
    · exact h
  have key : AW P none H0 (.rangeFunc g ps assign body) Q st := by
    refine AW_rangeFunc f caps (fun _ H' => IterOut items nx (fun pre j => hb pre ++ [.loop st.slots (if j.isNone then .ready else .done) j ps assign body]) H') hgv hok ?_ ?_
    · have h2 := hit st.heap.length (st.heap.length + 1) (fun pre j => hb pre ++ [.loop st.slots (if j.isNone then .ready else .done) j ps assign body]) nx (by omega) (fun p j => by simp [hlen]) (fun p j o ho => by
        rcases List.mem_append.1 ho with h | h
        · exact (hsc p o h).le (by omega)
        · simp only [List.mem_singleton] at h; subst h; exact scopedL_le (by omega) _ hscs) (by simpa [h0] using hA) (fun pre x suf X he hn => by
        have hlp : (hb pre).length = st.heap.length := hlen pre
        have heq : hb pre ++ [AObj.loop st.slots (if (none : Option Code).isNone then .ready else .done) none ps assign body] ++ X = hb pre ++ (.loop st.slots .ready none ps assign body :: X) := by simp
        simp only [heq]
        refine AYield_intro (slots := st.slots) (pend := none) (ps := ps) (assign := assign) (body := body) (st.heap.length + 1 + X.length) ?_ (hps x) (fun l => ?_)
        · rw [← hlp]; exact hget0
        · refine AW_mono (round pre x suf X l he hn) ?_
          rintro e st1 ⟨rfl, slots1, pend1, q1, q2⟩
          refine ⟨rfl, slots1, pend1, q1, AW_mono q2 fun e st2 hq => ?_⟩
          have conv : ∀ jump, roundFin st.heap.length (st.heap.length + 1 + X.length) ps assign body (fun r H' => r = .bool (nx pre x).isNone ∧ H' = hb (pre ++ [x]) ++ (.loop st.slots (if (nx pre x).isNone then .ready else .done) (nx pre x) ps assign body :: X)) (hb pre ++ (.loop st.slots .ready none ps assign body :: X)) jump st2 →
              roundFin st.heap.length (st.heap.length + 1 + X.length) ps assign body (fun r H' => r = .bool (nx pre x).isNone ∧ H' = hb (pre ++ [x]) ++ [.loop st.slots (if (nx pre x).isNone then .ready else .done) (nx pre x) ps assign body] ++ X) (hb pre ++ (.loop st.slots .ready none ps assign body :: X)) jump st2 := by
            rintro jump ⟨s3, t3, p3, r1, r2, r3, r4⟩
            exact ⟨s3, t3, p3, r1, r2, r3, by rw [r4]; simp⟩
          cases e with
          | normal => exact conv _ hq
          | ret => exact conv _ hq
          | exit k => exact conv _ hq
          | _ => exact hq.elim)
      simpa [h0] using h2
    · rintro r H' (⟨hn, rfl⟩ | ⟨pre, x, suf, c, he, hn, hj, rfl⟩)
      · refine ⟨st.slots, .ready, none, by rw [← hlen items]; exact hget0, by decide, ?_⟩
        have := hend hn
        rw [← hlen items]; rw [hset0]; simpa using this
      · refine ⟨st.slots, .done, some c, by rw [← hlen (pre ++ [x])]; exact hget0, by decide, ?_⟩
        have := hleft pre x suf c he hn hj
        rw [← hlen (pre ++ [x])]; rw [hset0]
        cases c <;> first | exact this.elim | (simpa using this)
  exact key C0 C a hC0 hg0 hx hg hH hs
end Ab
namespace Ab
open Go
variable {P : Program} {ro : Option Nat} {H0 : List AObj} {Q : Exit → ASt → Prop} {st : ASt} {dst : Option Tmp} {ty : TypeId} {pos : String} {after : Array Edge} {guard : Option (Nat × Bool)} {K : AV → List AObj → Prop}
def ArrT (P : Program) (t : TypeId) (n : Nat) (e : TypeId) : Prop := P.underlying t = some (.array n e)
theorem AOp_indexAddr_cptr {t : Nat} {x y : Operand} (len e sz : Nat) (cs : List AV) (kd : IntKind) (n : Int) (hx : st.opd x = .cptr cs) (hy : st.opd y = .int kd n) (ht : ArrT P t len e) (hs : SzOf P e sz)
    (h0 : 0 ≤ n) (hlt : n.toNat < len) (k : K (.cptr (cs.drop (n.toNat * sz))) st.heap) : AOp P ro ⟨dst, .indexAddr t x y, ty, pos, after, guard⟩ K st :=
  AOp_pure _ (fun c => by simp) (fun C a _ _ hsr => by
    have hv := hsr.opd x
    have hi := hsr.opd y
    rw [hx] at hv
    rw [hy] at hi
    generalize hxx : a.eval x = xx at hv
    cases hv with
    | cptr _ b o f hrow hrel =>
      have hle : n < (len : Int) := by omega
      have hrun : (Instr.indexAt t (.pointer (some ⟨b, o, none⟩)) (.int kd n)).run P C.w = .ok (.pointer (some ⟨b, o + n.toNat * sz, none⟩)) C.w := by
        have ht' : P.underlying t = some (.array len e) := ht
        simp [Instr.indexAt, Instr.sureAddr, run_underlying ht', asIntOf, h0, hle, hs.run, add_mk]
      refine ⟨_, by simp [execOp, hxx, hi.int_inv, hrun]; rfl, ?_⟩
      refine .cptr _ b (o + n.toNat * sz) (fun j => f (n.toNat * sz + j)) (fun j hj => ?_) (fun j hj => ?_)
      · have hj' : n.toNat * sz + j < cs.length := by simp at hj; omega
        have := hrow (n.toNat * sz + j) hj'
        rw [← Nat.add_assoc] at this
        exact this
      · have hj' : n.toNat * sz + j < cs.length := by simp at hj; omega
        have := hrel (n.toNat * sz + j) hj'
        simpa using this) k
theorem AOp_indexAddr_ptr {t : Nat} {x y : Operand} (len e sz id o : Nat) (kd : IntKind) (n : Int) (hx : st.opd x = .ptr id o) (hy : st.opd y = .int kd n) (ht : ArrT P t len e) (hs : SzOf P e sz)
    (h0 : 0 ≤ n) (hlt : n.toNat < len) (k : K (.ptr id (o + n.toNat * sz)) st.heap) : AOp P ro ⟨dst, .indexAddr t x y, ty, pos, after, guard⟩ K st :=
  AOp_pure _ (fun c => by simp) (fun C a _ _ hsr => by
    have hv := hsr.opd x
    have hi := hsr.opd y
    rw [hx] at hv
    rw [hy] at hi
    generalize hxx : a.eval x = xx at hv
    cases hv with
    | ptr _ _ hk =>
      have hle : n < (len : Int) := by omega
      have hrun : (Instr.indexAt t (.pointer (some ⟨C.μ id, o, none⟩)) (.int kd n)).run P C.w = .ok (.pointer (some ⟨C.μ id, o + n.toNat * sz, none⟩)) C.w := by
        have ht' : P.underlying t = some (.array len e) := ht
        simp [Instr.indexAt, Instr.sureAddr, run_underlying ht', asIntOf, h0, hle, hs.run, add_mk]
      exact ⟨.pointer (some ⟨C.μ id, o + n.toNat * sz, none⟩), by simp [execOp, hxx, hi.int_inv, hrun], .ptr _ _ hk⟩) k
theorem step_claim {C : Ctx} (hg : Good C) (b n : Nat) (hb : b < C.w.heap.size) (hS : C.S b ≤ n) (hno : ∀ (k : Nat) (o : AObj), C.H[k]? = some o → o.kind ≠ 6 → C.μ k ≠ b)
    {C' : Ctx} (hC : C' = { C with S := fun x => if x = b then n else C.S x }) : Good C' ∧ Ext C C' := by
  subst hC
  have he : Ext C { C with S := fun x => if x = b then n else C.S x } :=
    ⟨rfl, rfl, rfl, Nat.le_refl _, Nat.le_refl _, fun x => (by show C.S x ≤ if x = b then n else C.S x; split; (rename_i h; rw [h]; exact hS); exact Nat.le_refl _), fun _ _ _ => rfl, fun _ _ _ => rfl, fun k o h hd => .inr ⟨k, o, h, hd, rfl⟩,
     fun k o h => ⟨o, h, fun _ => rfl⟩, fun _ _ _ _ _ => rfl, fun k e sz len h => ⟨len, h, Nat.le_refl _, fun _ => ⟨rfl, fun cur hc => ⟨cur, hc, rfl⟩⟩⟩, fun k ver es h => ⟨ver, es, h, Nat.le_refl _, fun _ => ⟨rfl, rfl⟩⟩, fun k e sz vs h => ⟨vs, h, Nat.le_refl _, fun _ => ⟨rfl, fun cur hc => ⟨cur, hc, rfl⟩⟩⟩⟩
  refine ⟨⟨fun k o h => ?_, hg.lt, hg.inj, fun x hx => ?_, hg.tab.ext he⟩, he⟩
  · by_cases hd : o.kind = 6
    · cases o <;> first | trivial | (simp [AObj.kind] at hd)
    · exact ORel.ext he rfl rfl (by show (if _ then _ else _) = _; rw [if_neg (hno k o h hd)]) (hg.obj k o h)
  · have hx' : C.w.heap.size ≤ x := hx
    show (if x = b then n else C.S x) = 0
    rw [if_neg (by omega)]; exact hg.fresh x hx'
inductive FreezeOk (m : Nat) (vs : List AV) : List AV → List AV → Prop
  | nil : FreezeOk m vs [] []
  | junk {v : AV} {l l' : List AV} (h : FreezeOk m vs l l') : FreezeOk m vs (v :: l) (.junk :: l')
  | same {v : AV} {l l' : List AV} (hv : Scoped m v) (h : FreezeOk m vs l l') : FreezeOk m vs (v :: l) (v :: l')
  | froz {o : Nat} {l l' : List AV} (h : FreezeOk m vs l l') : FreezeOk m vs (.ptr m o :: l) (.cptr (vs.drop o) :: l')
theorem FreezeOk.length {m : Nat} {vs l l' : List AV} (h : FreezeOk m vs l l') : l.length = l'.length := by
  induction h <;> simp_all
theorem FreezeOk.rel {m : Nat} {vs l l' : List AV} (h : FreezeOk m vs l l') {C C' : Ctx} (hscp : ∀ v x, Scoped m v → VRel C v x → VRel C' v x) (hfz : ∀ o x, VRel C (.ptr m o) x → VRel C' (.cptr (vs.drop o)) x) :
    ∀ i (h1 : i < l.length) (h2 : i < l'.length) (x : Value), VRel C l[i] x → VRel C' l'[i] x := by
  induction h with
  | nil => intro i h1; simp at h1
  | junk h ih =>
    intro i h1 h2 x hx
    cases i with
    | zero => exact .junk x
    | succ i => exact ih i (by simpa using h1) (by simpa using h2) x (by simpa using hx)
  | same hv h ih =>
    intro i h1 h2 x hx
    cases i with
    | zero => exact hscp _ _ hv (by simpa using hx)
    | succ i => exact ih i (by simpa using h1) (by simpa using h2) x (by simpa using hx)
  | froz h ih =>
    intro i h1 h2 x hx
    cases i with
    | zero => exact hfz _ _ (by simpa using hx)
    | succ i => exact ih i (by simpa using h1) (by simpa using h2) x (by simpa using hx)
inductive PK where
  | str
  | int (k : IntKind)
  | bool
def PK.ok : PK → AV → Prop
  | .str, .str _ => True
  | .int k, .int k' _ => k' = k
  | .bool, .bool _ => True
  | _, _ => False
def pval : AV → Value
  | .str s => .string ⟨s.toArray⟩
  | .int k n => .int k n
  | .bool b => .bool b
  | _ => undef
theorem PK.inv {C : Ctx} {p : PK} {v : AV} {x : Value} (h : p.ok v) (hv : VRel C v x) : x = pval v := by
  cases p <;> cases v <;> simp [PK.ok] at h <;> cases hv <;> rfl
theorem PK.rel {C : Ctx} {p : PK} {v : AV} (h : p.ok v) : VRel C v (pval v) := by
  cases p <;> cases v <;> simp [PK.ok] at h
  · exact .str _
  · exact .int _ _
  · exact .bool _
section
variable {κ : Type} [DecidableEq κ]
end
structure ExtCmp (P : Program) (g : Nat) : Prop where
  ex : ∃ fn, P.funcs[g]? = some fn ∧ (fn.name == "runtime.NumGoroutine") = false ∧ fn.body.isNone = true ∧ Extern.findNext fn = none ∧ Extern.find fn = some Extern.BytealgCompare.compare
theorem AOp_cmpstring {g : Nat} {x y : Operand} {ats : Array TypeId} (a b : List UInt8) (hg : ExtCmp P g) (hx : st.opd x = .str a) (hy : st.opd y = .str b) (k : K (.int .i64 (Lib.compareBytes a b)) st.heap) :
    AOp P ro ⟨dst, .call { callee := .value (.func g), args := #[x, y], argTypes := ats }, ty, pos, after, guard⟩ K st :=
  AOp_pure _ (fun c => by simp) (fun C act _ _ hs => by
    have h1 := hs.opd x
    have h2 := hs.opd y
    rw [hx] at h1
    rw [hy] at h2
    obtain ⟨fn, f1, f2, f3, f4, f5⟩ := hg.ex
    refine ⟨.int .i64 (Lib.compareBytes a b), ?_, .int _ _⟩
    have hc := run_callFunc_extern f1 f2 f3 f4 f5 #[.string ⟨a.toArray⟩, .string ⟨b.toArray⟩] C.w
    rw [Lib.run_compareString] at hc
    have he : act.eval (.func g) = .func (.func g) #[] #[] := rfl
    simp [execOp, resolve, Deferred.ofValue, he, invoke, h1.str_inv, h2.str_inv, hc]) k
end Ab
namespace Ab
open Go
variable {P : Program} {ro : Option Nat} {H0 : List AObj} {Q : Exit → ASt → Prop} {st : ASt} {dst : Option Tmp} {ty : TypeId} {pos : String} {after : Array Edge} {guard : Option (Nat × Bool)} {K : AV → List AObj → Prop}
theorem AW_reserve {c : Code} (n : Nat) (h : AW P ro H0 c Q { st with heap := st.heap ++ List.replicate n .dead }) : AW P ro H0 c Q st := by
  intro C0 C a h0 hg0 hx hg hH hs
  have hnew : ∀ k (o : AObj), (C.H ++ List.replicate n AObj.dead)[k]? = some o → o.kind ≠ 6 → C.H[k]? = some o := fun k o hk ho => by
    rcases Nat.lt_or_ge k C.H.length with h' | h'
    · rw [List.getElem?_append_left h'] at hk; exact hk
    · rw [List.getElem?_append_right h', List.getElem?_replicate] at hk
      split at hk
      · injection hk with hk; subst hk; exact absurd rfl ho
      · cases hk
  have hold : ∀ k (o : AObj), C.H[k]? = some o → (C.H ++ List.replicate n AObj.dead)[k]? = some o := fun k o hk => by
    rw [List.getElem?_append_left (List.getElem?_eq_some_iff.1 hk).1]; exact hk
  have he : Ext C { C with H := C.H ++ List.replicate n .dead } :=
    ⟨rfl, rfl, rfl, Nat.le_refl _, Nat.le_refl _, fun _ => Nat.le_refl _, fun _ _ _ => rfl, fun _ _ _ => rfl, fun k o hk ho => .inr ⟨k, o, hnew k o hk ho, ho, rfl⟩,
     fun k o hk => ⟨o, hold k o hk, fun _ => rfl⟩, fun _ _ _ _ _ => rfl, fun k e sz len hk => ⟨len, hold k _ hk, Nat.le_refl _, fun _ => ⟨rfl, fun cur hc => ⟨cur, hc, rfl⟩⟩⟩, fun k ver es hk => ⟨ver, es, hold k _ hk, Nat.le_refl _, fun _ => ⟨rfl, rfl⟩⟩, fun k e sz vs hk => ⟨vs, hold k _ hk, Nat.le_refl _, fun _ => ⟨rfl, fun cur hc => ⟨cur, hc, rfl⟩⟩⟩⟩
  have hg' : Good { C with H := C.H ++ List.replicate n .dead } := by
    refine ⟨fun k o hk => ?_, fun k o hk ho => hg.lt k o (hnew k o hk ho) ho, fun j k o o' hj hk ho ho' => hg.inj j k o o' (hnew j o hj ho) (hnew k o' hk ho') ho ho', hg.fresh, hg.tab.ext he⟩
    by_cases ho : o.kind = 6
    · cases o <;> first | trivial | (simp [AObj.kind] at ho)
    · exact ORel.ext he rfl rfl rfl (hg.obj k o (hnew k o hk ho))
  exact h C0 { C with H := C.H ++ List.replicate n .dead } a h0 hg0 (hx.trans he) hg' (by show C.H ++ _ = _; rw [hH]) ⟨hs.toSRel.ext he, hs.defok.ext he⟩
theorem step_at {C : Ctx} (hg : Good C) (n : Nat) (hn : C.H[n]? = some .dead) (o : AObj) (ob : Obj) (w' : World) (hw : w'.heap = C.w.heap.push ob) (so : SameOut C.w w') (hk : o.kind ≠ 6)
    {C' : Ctx} (hC : C' = ⟨C.S, fun k => if k = n then C.w.heap.size else C.μ k, C.H.set n o, w'⟩) (hor : Ext C C' → ORel C' n o) : Good C' ∧ Ext C C' := by
  subst hC
  have hnl := (List.getElem?_eq_some_iff.1 hn).1
  have hne : ∀ k (o' : AObj), C.H[k]? = some o' → o'.kind ≠ 6 → k ≠ n := fun k o' h hd e => by rw [e, hn] at h; injection h with h; subst h; exact hd rfl
  have hset : ∀ k, k ≠ n → (C.H.set n o)[k]? = C.H[k]? := fun k h => by rw [List.getElem?_set, if_neg (Ne.symm h)]
  have hself : (C.H.set n o)[n]? = some o := by rw [List.getElem?_set, if_pos rfl]; simp [hnl]
  have hmu : ∀ k, k ≠ n → (if k = n then C.w.heap.size else C.μ k) = C.μ k := fun k h => if_neg h
  have hheap : ∀ b, b < C.w.heap.size → w'.heap[b]? = C.w.heap[b]? := fun b hb => by rw [hw]; exact get_push _ _ _ hb
  have hnew : ∀ k (o' : AObj), (C.H.set n o)[k]? = some o' → (k ≠ n ∧ C.H[k]? = some o') ∨ (k = n ∧ o' = o) := fun k o' h => by
    by_cases e : k = n
    · subst e; rw [hself] at h; exact .inr ⟨rfl, by injection h with h; exact h.symm⟩
    · rw [hset k e] at h; exact .inl ⟨e, h⟩
  have he : Ext C ⟨C.S, fun k => if k = n then C.w.heap.size else C.μ k, C.H.set n o, w'⟩ := by
    refine ⟨so.os, so.tape, so.output, so.drawn, ?_, fun _ => Nat.le_refl _, ?_, ?_, ?_, ?_, ?_, ?_, ?_, ?_⟩
    · show C.w.heap.size ≤ w'.heap.size; rw [hw]; simp
    · intro b q hq; exact cell_eq (hheap b (hg.S_lt hq))
    · intro b hb _; exact hheap b hb
    · intro k o' hk' hd
      rcases hnew k o' hk' with ⟨h1, h2⟩ | ⟨h1, h2⟩
      · exact .inr ⟨k, o', h2, hd, (hmu k h1).symm⟩
      · left; show C.w.heap.size ≤ if k = n then C.w.heap.size else C.μ k; rw [if_pos h1]; exact Nat.le_refl _
    · intro k o' h
      by_cases e : k = n
      · subst e; rw [hn] at h; injection h with h; subst h; exact ⟨o, hself, fun hd => absurd rfl hd⟩
      · exact ⟨o', by show (C.H.set n o)[k]? = _; rw [hset k e]; exact h, fun _ => rfl⟩
    · intro k o' h _ h6; exact hmu k (hne k o' h h6)
    · intro k e sz len h
      have hk := hne k _ h (by simp [AObj.kind])
      exact ⟨len, by show (C.H.set n o)[k]? = _; rw [hset k hk]; exact h, Nat.le_refl _, fun _ => ⟨hmu k hk, fun cur hc => ⟨cur, by rw [hheap _ (hg.lt k _ h (by simp [AObj.kind]))]; exact hc, rfl⟩⟩⟩
    · intro k ver es h
      have hk := hne k _ h (by simp [AObj.kind])
      exact ⟨ver, es, by show (C.H.set n o)[k]? = _; rw [hset k hk]; exact h, Nat.le_refl _, fun _ => ⟨rfl, hheap _ (hg.lt k _ h (by simp [AObj.kind]))⟩⟩
    · intro k e sz vs h
      have hk := hne k _ h (by simp [AObj.kind])
      exact ⟨vs, by show (C.H.set n o)[k]? = _; rw [hset k hk]; exact h, Nat.le_refl _, fun _ => ⟨hmu k hk, fun cur hc => ⟨cur, by rw [hheap _ (hg.lt k _ h (by simp [AObj.kind]))]; exact hc, rfl⟩⟩⟩
  refine ⟨⟨?_, ?_, ?_, ?_, hg.tab.ext he⟩, he⟩
  · intro k o' h
    rcases hnew k o' h with ⟨h1, h2⟩ | ⟨h1, h2⟩
    · by_cases hd : o'.kind = 6
      · cases o' <;> first | trivial | (simp [AObj.kind] at hd)
      · exact ORel.ext he (hmu k h1) (hheap _ (hg.lt k o' h2 hd)) rfl (hg.obj k o' h2)
    · subst h1; subst h2; exact hor he
  · intro k o' h hd
    show (if k = n then C.w.heap.size else C.μ k) < w'.heap.size
    rw [hw]
    rcases hnew k o' h with ⟨h1, h2⟩ | ⟨h1, h2⟩
    · rw [if_neg h1]; have := hg.lt k o' h2 hd; simp; omega
    · rw [if_pos h1]; simp
  · intro j k o1 o2 h1 h2 d1 d2 hmm
    simp only at hmm
    rcases hnew j o1 h1 with ⟨a1, a2⟩ | ⟨a1, a2⟩ <;> rcases hnew k o2 h2 with ⟨b1, b2⟩ | ⟨b1, b2⟩
    · rw [hmu j a1, hmu k b1] at hmm; exact hg.inj j k o1 o2 a2 b2 d1 d2 hmm
    · rw [hmu j a1, if_pos b1] at hmm; have := hg.lt j o1 a2 d1; omega
    · rw [hmu k b1, if_pos a1] at hmm; have := hg.lt k o2 b2 d2; omega
    · omega
  · intro b hb
    exact hg.fresh b (by rw [hw] at hb; simp at hb; omega)
def beqB : List Bool → List Bool → Bool
  | [], [] => true
  | true :: l, true :: l' => beqB l l'
  | false :: l, false :: l' => beqB l l'
  | _, _ => false
def stg : List (List Bool × List AObj) → List Bool → List AObj
  | [], _ => []
  | p :: l, s => match beqB p.1 s with | true => p.2 | false => stg l s
def DAll (P : Program) (ro : Option Nat) (ops : Array Oper) (fin : List AV) (stages : List Bool → List AObj) (eff : List (Option Nat)) (vals : List AV) : List (Nat × List Bool × List Bool) → Prop
  | [] => True
  | p :: ps => DStep P ro ops fin stages eff vals p.1 p.2.1 p.2.2 ∧ DAll P ro ops fin stages eff vals ps
theorem DAll.mem {ops : Array Oper} {fin : List AV} {stages : List Bool → List AObj} {eff : List (Option Nat)} {vals : List AV} : ∀ {ps : List (Nat × List Bool × List Bool)}, DAll P ro ops fin stages eff vals ps →
    ∀ p, p ∈ ps → DStep P ro ops fin stages eff vals p.1 p.2.1 p.2.2
  | [], _, p, hp => by cases hp
  | q :: qs, h, p, hp => by
    rcases List.mem_cons.1 hp with rfl | hp
    · exact h.1
    · exact DAll.mem h.2 p hp
def masksOk (n : Nat) : List (Nat × List Bool × List Bool) → Bool
  | [] => true
  | p :: ps => p.2.2.length == n && masksOk n ps
theorem masksOk_mem {n : Nat} : ∀ {ps : List (Nat × List Bool × List Bool)}, masksOk n ps = true → ∀ p, p ∈ ps → p.2.2.length = n
  | [], _, p, hp => by cases hp
  | q :: qs, h, p, hp => by
    simp only [masksOk, Bool.and_eq_true, beq_iff_eq] at h
    rcases List.mem_cons.1 hp with rfl | hp
    · exact h.1
    · exact masksOk_mem h.2 p hp
theorem AW_drawL {id : Nat} {ops : Array Oper} (stl : List (List Bool × List AObj)) (eff : List (Option Nat)) (m : Nat) (pairs : List (Nat × List Bool × List Bool)) (vals : List AV)
    (hm : P.follows .mixedOrders = true) (hok : drawOk ops eff m pairs = true) (hlen : vals.length = ops.size) (n : Nat) (hn : st.slots.length = n) (hmask : masksOk n pairs = true) (h0 : st.heap = stg stl (List.replicate m false))
    (hstep : DAll P ro ops (putAll ops.toList vals st.slots) (stg stl) eff vals pairs) (hQ : Q .normal { st with slots := putAll ops.toList vals st.slots, heap := stg stl (List.replicate m true) }) : AW P ro H0 (.region id ops true) Q st :=
  AW_draw vals (stg stl) eff m pairs _ rfl hm hok hlen (fun p hp => by rw [hn]; exact masksOk_mem hmask p hp) h0 (fun p hp => hstep.mem p hp) hQ
end Ab
namespace Ab
open Go
theorem hsetE0 {G L : List AObj} {x : AObj} {N : Nat} (h : G.length = N) : (G ++ L).set N x = G ++ L.set 0 x := by subst h; exact hset0
theorem hsetEN {G L : List AObj} {x : AObj} {N i : Nat} (h : G.length = N) : (G ++ L).set (N + i) x = G ++ L.set i x := by subst h; exact hsetN i
theorem takeE0 {G L : List AObj} {N : Nat} (h : G.length = N) : (G ++ L).take N = G := by subst h; exact takeA0
theorem takeEN {G L : List AObj} {N i : Nat} (h : G.length = N) : (G ++ L).take (N + i) = G ++ L.take i := by subst h; exact takeAN i
theorem outok_hp {A B X L : List AObj} {m : Nat} (j : Nat) (hl : A.length = B.length) (hsc : ∀ o, o ∈ B → OScoped B.length o) (hm : m = (B ++ X).length + j) (hj : j ≤ L.length) (h : ∀ o, o ∈ L.take j → OScoped m o) :
    OutOk (A ++ X) ((B ++ X) ++ L) m := by
  subst hm
  refine ⟨by simp; omega, by simp; omega, fun k hk => ?_⟩
  rcases Nat.lt_or_ge k B.length with h' | h'
  · right
    refine ⟨B[k], by rw [List.append_assoc, List.getElem?_append_left h', List.getElem?_eq_getElem h'], (hsc _ (by simp)).le (by simp; omega)⟩
  · rcases Nat.lt_or_ge k (B ++ X).length with h2 | h2
    · left
      refine ⟨by simp at h2 ⊢; omega, ?_⟩
      rw [List.getElem?_append_left h2, List.getElem?_append_right h', List.getElem?_append_right (by omega), hl]
    · right
      have hl2 : k - (B ++ X).length < L.length := by omega
      refine ⟨L[k - (B ++ X).length], by rw [List.getElem?_append_right h2, List.getElem?_eq_getElem hl2], h _ ?_⟩
      rw [List.mem_take_iff_getElem]
      exact ⟨k - (B ++ X).length, by omega, rfl⟩
def putD : List (Option Nat) → List AV → List AV → List AV
  | some d :: ds, v :: vs, l => putD ds vs (l.set d v)
  | none :: ds, _ :: vs, l => putD ds vs l
  | _, _, l => l
theorem putAll_putD : ∀ (os : List Oper) (vals l : List AV), putAll os vals l = putD (os.map (·.dst)) vals l
  | [], _, _ => rfl
  | o :: os, [], l => by simp only [putAll, List.map_cons]; cases o.dst <;> rfl
  | o :: os, v :: vs, l => by
    simp only [putAll, List.map_cons]
    cases h : o.dst with
    | none => simp only [putD]; exact putAll_putD os vs l
    | some d => simp only [putD]; exact putAll_putD os vs _
variable {P : Program} {ro : Option Nat} {H0 : List AObj} {Q : Exit → ASt → Prop} {st : ASt}
def DOne (P : Program) (ro : Option Nat) (ops : Array Oper) (i : Nat) (isEff : Bool) (S : List AV) (H : List AObj) (v : AV) (H2 : List AObj) : Prop :=
  ∀ o, ops[i]? = some o →
    (AWant ops o ⟨S, H⟩ = some true ∧ AOp P ro o (fun v' h' => v' = v ∧ h' = H2) ⟨S, H⟩) ∨
    (AWant ops o ⟨S, H⟩ = some false ∧ v = .lit undef ∧ isEff = false)
def DAll2 (P : Program) (ro : Option Nat) (ops : Array Oper) (fin : List AV) (stl : List (List Bool × List AObj)) (eff : List (Option Nat)) (vals : List AV) : List (Nat × List Bool × List Bool) → Prop
  | [] => True
  | p :: ps => DOne P ro ops p.1 (eff.getD p.1 none).isSome (keepM p.2.2 fin) (stg stl p.2.1) (vals.getD p.1 .junk) (stg stl (match eff.getD p.1 none with | some k => p.2.1.set k true | none => p.2.1)) ∧ DAll2 P ro ops fin stl eff vals ps
theorem DAll2.all {ops : Array Oper} {fin : List AV} {stl : List (List Bool × List AObj)} {eff : List (Option Nat)} {vals : List AV} : ∀ {ps : List (Nat × List Bool × List Bool)}, DAll2 P ro ops fin stl eff vals ps →
    DAll P ro ops fin (stg stl) eff vals ps
  | [], _ => trivial
  | p :: ps, h => by
    refine ⟨fun o ho => ?_, h.2.all⟩
    rcases h.1 o ho with ⟨h1, h2⟩ | ⟨h1, h2, h3⟩
    · exact .inl ⟨h1, h2⟩
    · refine .inr ⟨h1, h2, ?_⟩
      unfold effOf; cases he : eff.getD p.1 none with
      | none => rfl
      | some k => rw [he] at h3; cases h3
theorem AW_drawD {id : Nat} {ops : Array Oper} (dsts : List (Option Nat)) (stl : List (List Bool × List AObj)) (eff : List (Option Nat)) (m : Nat) (pairs : List (Nat × List Bool × List Bool)) (vals : List AV)
    (hm : P.follows .mixedOrders = true) (hok : drawOk ops eff m pairs = true) (hlen : vals.length = ops.size) (n : Nat) (hn : st.slots.length = n) (hmask : masksOk n pairs = true) (hd : ops.toList.map (·.dst) = dsts) (h0 : st.heap = stg stl (List.replicate m false))
    (hstep : DAll2 P ro ops (putD dsts vals st.slots) stl eff vals pairs) (hQ : Q .normal { st with slots := putD dsts vals st.slots, heap := stg stl (List.replicate m true) }) : AW P ro H0 (.region id ops true) Q st := by
  subst hd
  rw [← putAll_putD] at hstep hQ
  exact AW_drawL stl eff m pairs vals hm hok hlen n hn hmask h0 hstep.all hQ
def keepG : List Nat → List AV → List AV
  | [], l => l.map fun _ => .junk
  | 0 :: ks, v :: l => v :: keepG ks l
  | (k + 1) :: ks, _ :: l => .junk :: keepG (k :: ks) l
  | _ :: _, [] => []
def maskG : Nat → List Nat → List Bool
  | 0, _ => []
  | n + 1, [] => false :: maskG n []
  | n + 1, 0 :: ks => true :: maskG n ks
  | n + 1, (k + 1) :: ks => false :: maskG n (k :: ks)
theorem maskG_length : ∀ (n : Nat) (ks : List Nat), (maskG n ks).length = n
  | 0, _ => by simp [maskG]
  | n + 1, [] => by simp [maskG, maskG_length n]
  | n + 1, 0 :: ks => by simp [maskG, maskG_length n]
  | n + 1, (k + 1) :: ks => by simp [maskG, maskG_length n]
theorem keepM_maskG : ∀ (l : List AV) (ks : List Nat), keepM (maskG l.length ks) l = keepG ks l
  | [], [] => by simp [maskG, keepM, keepG]
  | [], _ :: _ => by simp [maskG, keepM, keepG]
  | v :: l, [] => by
    have := keepM_maskG l []
    simp only [List.length_cons, maskG, keepM, this]; simp [keepG]
  | v :: l, 0 :: ks => by simp only [List.length_cons, maskG, keepM, keepG, keepM_maskG l ks]
  | v :: l, (k + 1) :: ks => by simp only [List.length_cons, maskG, keepM, keepG, keepM_maskG l (k :: ks)]
theorem putD_length : ∀ (ds : List (Option Nat)) (vs l : List AV), (putD ds vs l).length = l.length
  | some d :: ds, v :: vs, l => by rw [putD, putD_length ds vs]; simp
  | none :: ds, _ :: vs, l => by rw [putD, putD_length ds vs]
  | [], _, l => by simp [putD]
  | some _ :: _, [], l => by simp [putD]
  | none :: _, [], l => by simp [putD]
def pairsG (n : Nat) (ps : List (Nat × List Bool × List Nat)) : List (Nat × List Bool × List Bool) := ps.map fun p => (p.1, p.2.1, maskG n p.2.2)
theorem pairsG_ok (n : Nat) : ∀ ps, masksOk n (pairsG n ps) = true
  | [] => rfl
  | p :: ps => by
    have := pairsG_ok n ps
    unfold pairsG at this
    simp [pairsG, masksOk, maskG_length, this]
def DAllG (P : Program) (ro : Option Nat) (ops : Array Oper) (fin : List AV) (stl : List (List Bool × List AObj)) (eff : List (Option Nat)) (vals : List AV) : List (Nat × List Bool × List Nat) → Prop
  | [] => True
  | p :: ps => DOne P ro ops p.1 (eff.getD p.1 none).isSome (keepG p.2.2 fin) (stg stl p.2.1) (vals.getD p.1 .junk) (stg stl (match eff.getD p.1 none with | some k => p.2.1.set k true | none => p.2.1)) ∧ DAllG P ro ops fin stl eff vals ps
theorem DAllG.all {ops : Array Oper} {fin : List AV} {stl : List (List Bool × List AObj)} {eff : List (Option Nat)} {vals : List AV} {n : Nat} (hn : fin.length = n) : ∀ {ps : List (Nat × List Bool × List Nat)}, DAllG P ro ops fin stl eff vals ps →
    DAll2 P ro ops fin stl eff vals (pairsG n ps)
  | [], _ => trivial
  | p :: ps, h => ⟨by subst hn; rw [keepM_maskG]; exact h.1, DAllG.all hn h.2⟩
theorem AW_drawE {id : Nat} {ops : Array Oper} (dsts : List (Option Nat)) (stl : List (List Bool × List AObj)) (eff : List (Option Nat)) (m : Nat) (pairs : List (Nat × List Bool × List Nat)) (vals : List AV)
    (hm : P.follows .mixedOrders = true) (n : Nat) (hok : drawOk ops eff m (pairsG n pairs) = true) (hlen : vals.length = ops.size) (hn : st.slots.length = n) (hd : ops.toList.map (·.dst) = dsts) (h0 : st.heap = stg stl (List.replicate m false))
    (hstep : DAllG P ro ops (putD dsts vals st.slots) stl eff vals pairs) (hQ : Q .normal { st with slots := putD dsts vals st.slots, heap := stg stl (List.replicate m true) }) : AW P ro H0 (.region id ops true) Q st :=
  AW_drawD dsts stl eff m (pairsG n pairs) vals hm hok hlen n hn (pairsG_ok n pairs) hd h0 (hstep.all (by rw [putD_length]; exact hn)) hQ
attribute [push_cast] maskG
def idxL : Nat → List AV → List (Nat × AV)
  | _, [] => []
  | k, v :: vs => (k, v) :: idxL (k + 1) vs
theorem afill_row (sz : Nat) : ∀ (vs : List AV) (k : Nat) (done rest : List AV), done.length = k * sz → rest.length = vs.length * sz → (∀ v, v ∈ vs → v.cells.length = sz ∧ (v.isCell || v.isAgg) = true) →
    afill (fun i => some (i * sz, sz)) (done ++ rest) (idxL k vs) = some (done ++ flat vs)
  | [], k, done, rest, _, h2, _ => by
    have : rest = [] := List.eq_nil_of_length_eq_zero (by simpa using h2)
    simp [idxL, afill, this, flat]
  | v :: vs, k, done, rest, h1, h2, h3 => by
    obtain ⟨h4, h5⟩ := h3 v (by simp)
    simp only [List.length_cons, Nat.add_mul, Nat.one_mul] at h2
    have hc : v.cells.length = sz ∧ k * sz + v.cells.length ≤ (done ++ rest).length ∧ (v.isCell || v.isAgg) = true := ⟨h4, by simp; omega, h5⟩
    simp only [idxL, afill]
    have hsp : splice (done ++ rest) (k * sz) v.cells = (done ++ v.cells) ++ rest.drop sz := by
      unfold splice
      rw [← h1, List.take_left, List.append_assoc, List.append_assoc, h4]
      congr 2
      rw [List.drop_append]; simp
    rw [if_pos hc, hsp, afill_row sz vs (k + 1) (done ++ v.cells) (rest.drop sz) (by simp [Nat.add_mul]; omega) (by simp; omega) (fun x hx => h3 x (by simp [hx]))]
    simp [flat]
theorem AOp_buildRow {t e n sz : Nat} {parts : Array (Nat × Operand)} {K : AV → List AObj → Prop} {dst : Option Tmp} {ty : TypeId} {pos : String} {after : Array Edge} {guard : Option (Nat × Bool)} (zs : List Value) (vs : List AV) (ht : SliceT P t e) (hs : SzOf P e sz) (hz : ZeroOf P e zs) (hn : n = vs.length)
    (hp : parts.toList.map (fun p => (p.1, st.opd p.2)) = idxL 0 vs) (hc : ∀ v, v ∈ vs → v.cells.length = sz ∧ (v.isCell || v.isAgg) = true) (hsmall : n * sz ≤ 16777216) (hz0 : zs.length = sz)
    (k : K (.sl .none vs) st.heap) : AOp P ro ⟨dst, .buildSlice t n parts, ty, pos, after, guard⟩ K st := by
  refine AOp_buildSlice zs vs ht hs hz hn _ hp ?_ hsmall hz0 k
  have := afill_row sz vs 0 [] ((List.range (n * sz)).map fun i => (zs.map ofVal).getD (i % zs.length) .junk) (by simp) (by simp [hn]) hc
  simpa using this
end Ab
namespace Ab
open Go
variable {P : Program} {H0 : List AObj} {Q : Exit → ASt → Prop} {st : ASt}
theorem oscoped_amap {κ α : Type} {ak : κ → AV} {av : α → AV} {n ver : Nat} {m : List (κ × α)} (h1 : ∀ k, Scoped n (ak k)) (h2 : ∀ v, Scoped n (av v)) : OScoped n (.map ver (amap ak av m)) := by
  intro e he
  simp only [amap, List.mem_map] at he
  obtain ⟨p, _, rfl⟩ := he
  exact ⟨h1 _, h2 _⟩
theorem outok_round {A B X heap : List AObj} {lp lp' : AObj} {n : Nat} (h1 : A.length = n) (h2 : B.length = n) (hsc : ∀ o, o ∈ B → OScoped n o) (hlp : OScoped n lp') (ht : heap.take (n + 1 + X.length) = B ++ (lp' :: X)) :
    OutOk (A ++ (lp :: X)) heap (n + 1 + X.length) := by
  have hl := congrArg List.length ht
  simp at hl
  refine ⟨by omega, by simp; omega, fun k hk => ?_⟩
  have hget : heap[k]? = (B ++ (lp' :: X))[k]? := by rw [← ht, List.getElem?_take_of_lt hk]
  rw [hget]
  rcases Nat.lt_or_ge k n with h | h
  · right
    have hb : k < B.length := by omega
    exact ⟨B[k], by rw [List.getElem?_append_left hb, List.getElem?_eq_getElem hb], (hsc _ (by simp)).le (by omega)⟩
  · rcases Nat.eq_or_lt_of_le h with h | h
    · right
      subst h
      exact ⟨lp', by rw [← h2]; exact hget0, hlp.le (by omega)⟩
    · left
      obtain ⟨i, rfl⟩ : ∃ i, k = n + (i + 1) := ⟨k - n - 1, by omega⟩
      refine ⟨by simp; omega, ?_⟩
      have e1 : (B ++ (lp' :: X))[n + (i + 1)]? = X[i]? := by rw [List.getElem?_append_right (by omega), h2]; simp
      have e2 : (A ++ (lp :: X))[n + (i + 1)]? = X[i]? := by rw [List.getElem?_append_right (by omega), h1]; simp
      rw [e1, e2]
def iterK (B : List AObj) (lp : AObj) (X : List AObj) (j : Option Code) : Exit → ASt → Prop
  | .normal, st => j = none ∧ ∃ L, st.heap = (B ++ (lp :: X)) ++ L
  | .ret, st => j = some .ret ∧ ∃ L, st.heap = (B ++ (lp :: X)) ++ L
  | .exit k, st => j = some (.exit k) ∧ ∃ L, st.heap = (B ++ (lp :: X)) ++ L
  | _, _ => False
theorem AW_iterE {g : Operand} {ps : Array Tmp} {assign body : Code} {β : Type} {items : List β} {enc : β → List AV} {A : List AObj → Prop} (f : Nat) (caps : List AV) (hit : IterC P f caps items enc A)
    (hb : List β → List AObj) (nx : List β → β → Option Code) (hgv : st.opd g = .fn f caps) (hok : callOk P f = true) (h0 : hb [] = st.heap) (hA : A (st.heap ++ [.loop st.slots .ready none ps assign body])) (n : Nat) (hnl : st.heap.length = n) (hlen : ∀ p, (hb p).length = n)
    (hsc0 : ∀ p o, o ∈ hb p → o ∈ st.heap ∨ OScoped n o) (hps : ∀ x, ps.size = (enc x).length)
    (round : ∀ pre x suf X l N G G', items = pre ++ x :: suf → AllNone nx pre → N = n + 1 + X.length → G = hb pre ++ (.loop st.slots .ready none ps assign body :: X) → G' = hb pre ++ (.loop st.slots .busy none ps assign body :: X) → G.length = N → G'.length = N →
      AW P (some l) G assign (fun e st1 => e = .normal ∧ ∃ L, st1.heap = G ++ L ∧
          AW P (some l) G body (iterK (hb (pre ++ [x])) (.loop st.slots .busy none ps assign body) X (nx pre x)) ⟨st1.slots, G' ++ L⟩)
        ⟨zipPut ps.toList (enc x) st.slots, G⟩)
    (hend : AllNone nx items → Q .normal ⟨st.slots, hb items ++ [.loop st.slots .exhausted none ps assign body]⟩)
    (hleft : ∀ pre x suf c, items = pre ++ x :: suf → AllNone nx pre → nx pre x = some c → match c with
      | .ret => Q .ret ⟨st.slots, hb (pre ++ [x]) ++ [.loop st.slots .exhausted (some .ret) ps assign body]⟩
      | .exit k => Q (.exit k) ⟨st.slots, hb (pre ++ [x]) ++ [.loop st.slots .exhausted (some (.exit k)) ps assign body]⟩
      | _ => False) : AW P none H0 (.rangeFunc g ps assign body) Q st := by
  subst hnl
  intro C0 C a hC0 hg0 hx hg hH hs
  have hscs : ScopedL st.heap.length st.slots := by
    refine ScopedL_get fun j hj => ?_
    have := (hs.slot j hj (by rw [hs.size]; exact hj)).scop
    rw [hH] at this; exact this
  have hsc : ∀ p o, o ∈ hb p → OScoped st.heap.length o := fun p o ho => by
    rcases hsc0 p o ho with h | h
    · obtain ⟨i, hi, rfl⟩ := List.getElem_of_mem h
      have := hg.scop (k := i) (by rw [hH]; exact List.getElem?_eq_getElem hi)
      rw [hH] at this; exact this
    · exact h
  refine AW_iter f caps hit hb nx hgv hok h0 hA hlen hsc0 hps (fun pre x suf X l he hn => ?_) hend hleft C0 C a hC0 hg0 hx hg hH hs
  refine AW_mono (round pre x suf X l _ _ _ he hn rfl rfl rfl (by simp [hlen]; omega) (by simp [hlen]; omega)) ?_
  rintro e st1 ⟨rfl, L, hL, hbody⟩
  have hlp : (hb pre).length = st.heap.length := hlen pre
  refine ⟨rfl, st.slots, none, by rw [hL, List.append_assoc, ← hlp]; exact hget0, ?_⟩
  have hset : st1.heap.set st.heap.length (.loop st.slots .busy none ps assign body) = (hb pre ++ (.loop st.slots .busy none ps assign body :: X)) ++ L := by
    rw [hL, List.append_assoc, ← hlp, hset0]; simp
  rw [hset]
  refine AW_mono hbody fun e st2 hq => ?_
  have hl2 : (hb (pre ++ [x])).length = st.heap.length := hlen _
  have fin : ∀ j, nx pre x = j → (∃ L, st2.heap = (hb (pre ++ [x]) ++ (.loop st.slots .busy none ps assign body :: X)) ++ L) →
      roundFin st.heap.length (st.heap.length + 1 + X.length) ps assign body (fun r H' => r = .bool (nx pre x).isNone ∧ H' = hb (pre ++ [x]) ++ (.loop st.slots (if (nx pre x).isNone then .ready else .done) (nx pre x) ps assign body :: X)) (hb pre ++ (.loop st.slots .ready none ps assign body :: X)) j st2 := by
    rintro j rfl ⟨L2, hL2⟩
    have ht : ((st2.heap.set st.heap.length (.loop st.slots (if (nx pre x).isNone then .ready else .done) (nx pre x) ps assign body)).take (st.heap.length + 1 + X.length)) = hb (pre ++ [x]) ++ (.loop st.slots (if (nx pre x).isNone then .ready else .done) (nx pre x) ps assign body :: X) := by
      rw [hL2, List.append_assoc, ← hl2, hset0]
      simp only [List.cons_append, List.set_cons_zero]
      rw [Nat.add_assoc, takeAN, show 1 + X.length = X.length + 1 by omega, List.take_succ_cons, List.take_left]
    exact ⟨st.slots, .busy, none, by rw [hL2, List.append_assoc, ← hl2]; exact hget0, outok_round hlp hl2 (fun o ho => hsc _ o ho) (show OScoped _ (.loop st.slots _ _ ps assign body) from hscs) ht, rfl, ht⟩
  cases e with
  | normal => exact fin none hq.1 hq.2
  | ret => exact fin (some .ret) hq.1 hq.2
  | exit k => exact fin (some (.exit k)) hq.1 hq.2
  | _ => exact hq.elim
end Ab
namespace Ab
open Go
variable {P : Program} {ro : Option Nat} {H0 : List AObj} {Q : Exit → ASt → Prop} {st : ASt} {dst : Option Tmp} {ty : TypeId} {pos : String} {after : Array Edge} {guard : Option (Nat × Bool)} {K : AV → List AObj → Prop}
theorem step_atS (sz : Nat) {C : Ctx} (hg : Good C) (n : Nat) (hn : C.H[n]? = some .dead) (o : AObj) (ob : Obj) (w' : World) (hw : w'.heap = C.w.heap.push ob) (so : SameOut C.w w') (hk : o.kind ≠ 6)
    {C' : Ctx} (hC : C' = ⟨fun b => if b = C.w.heap.size then sz else C.S b, fun k => if k = n then C.w.heap.size else C.μ k, C.H.set n o, w'⟩) (hor : Ext C C' → ORel C' n o) : Good C' ∧ Ext C C' := by
  subst hC
  have hnl := (List.getElem?_eq_some_iff.1 hn).1
  have hne : ∀ k (o' : AObj), C.H[k]? = some o' → o'.kind ≠ 6 → k ≠ n := fun k o' h hd e => by rw [e, hn] at h; injection h with h; subst h; exact hd rfl
  have hset : ∀ k, k ≠ n → (C.H.set n o)[k]? = C.H[k]? := fun k h => by rw [List.getElem?_set, if_neg (Ne.symm h)]
  have hself : (C.H.set n o)[n]? = some o := by rw [List.getElem?_set, if_pos rfl]; simp [hnl]
  have hmu : ∀ k, k ≠ n → (if k = n then C.w.heap.size else C.μ k) = C.μ k := fun k h => if_neg h
  have hheap : ∀ b, b < C.w.heap.size → w'.heap[b]? = C.w.heap[b]? := fun b hb => by rw [hw]; exact get_push _ _ _ hb
  have hnew : ∀ k (o' : AObj), (C.H.set n o)[k]? = some o' → (k ≠ n ∧ C.H[k]? = some o') ∨ (k = n ∧ o' = o) := fun k o' h => by
    by_cases e : k = n
    · subst e; rw [hself] at h; exact .inr ⟨rfl, by injection h with h; exact h.symm⟩
    · rw [hset k e] at h; exact .inl ⟨e, h⟩
  have he : Ext C ⟨fun b => if b = C.w.heap.size then sz else C.S b, fun k => if k = n then C.w.heap.size else C.μ k, C.H.set n o, w'⟩ := by
    refine ⟨so.os, so.tape, so.output, so.drawn, ?_, fun b => (by show C.S b ≤ if b = C.w.heap.size then sz else C.S b; split; (rename_i h; rw [hg.fresh b (by omega)]; exact Nat.zero_le _); exact Nat.le_refl _), ?_, ?_, ?_, ?_, ?_, ?_, ?_, ?_⟩
    · show C.w.heap.size ≤ w'.heap.size; rw [hw]; simp
    · intro b q hq; exact cell_eq (hheap b (hg.S_lt hq))
    · intro b hb _; exact hheap b hb
    · intro k o' hk' hd
      rcases hnew k o' hk' with ⟨h1, h2⟩ | ⟨h1, h2⟩
      · exact .inr ⟨k, o', h2, hd, (hmu k h1).symm⟩
      · left; show C.w.heap.size ≤ if k = n then C.w.heap.size else C.μ k; rw [if_pos h1]; exact Nat.le_refl _
    · intro k o' h
      by_cases e : k = n
      · subst e; rw [hn] at h; injection h with h; subst h; exact ⟨o, hself, fun hd => absurd rfl hd⟩
      · exact ⟨o', by show (C.H.set n o)[k]? = _; rw [hset k e]; exact h, fun _ => rfl⟩
    · intro k o' h _ h6; exact hmu k (hne k o' h h6)
    · intro k e sz len h
      have hk := hne k _ h (by simp [AObj.kind])
      exact ⟨len, by show (C.H.set n o)[k]? = _; rw [hset k hk]; exact h, Nat.le_refl _, fun _ => ⟨hmu k hk, fun cur hc => ⟨cur, by rw [hheap _ (hg.lt k _ h (by simp [AObj.kind]))]; exact hc, rfl⟩⟩⟩
    · intro k ver es h
      have hk := hne k _ h (by simp [AObj.kind])
      exact ⟨ver, es, by show (C.H.set n o)[k]? = _; rw [hset k hk]; exact h, Nat.le_refl _, fun _ => ⟨rfl, hheap _ (hg.lt k _ h (by simp [AObj.kind]))⟩⟩
    · intro k e sz vs h
      have hk := hne k _ h (by simp [AObj.kind])
      exact ⟨vs, by show (C.H.set n o)[k]? = _; rw [hset k hk]; exact h, Nat.le_refl _, fun _ => ⟨hmu k hk, fun cur hc => ⟨cur, by rw [hheap _ (hg.lt k _ h (by simp [AObj.kind]))]; exact hc, rfl⟩⟩⟩
  refine ⟨⟨?_, ?_, ?_, ?_, hg.tab.ext he⟩, he⟩
  · intro k o' h
    rcases hnew k o' h with ⟨h1, h2⟩ | ⟨h1, h2⟩
    · by_cases hd : o'.kind = 6
      · cases o' <;> first | trivial | (simp [AObj.kind] at hd)
      · have hlt := hg.lt k o' h2 hd
        exact ORel.ext he (hmu k h1) (hheap _ hlt) (by show (if _ then _ else _) = _; rw [if_neg (by omega)]) (hg.obj k o' h2)
    · subst h1; subst h2; exact hor he
  · intro k o' h hd
    show (if k = n then C.w.heap.size else C.μ k) < w'.heap.size
    rw [hw]
    rcases hnew k o' h with ⟨h1, h2⟩ | ⟨h1, h2⟩
    · rw [if_neg h1]; have := hg.lt k o' h2 hd; simp; omega
    · rw [if_pos h1]; simp
  · intro j k o1 o2 h1 h2 d1 d2 hmm
    simp only at hmm
    rcases hnew j o1 h1 with ⟨a1, a2⟩ | ⟨a1, a2⟩ <;> rcases hnew k o2 h2 with ⟨b1, b2⟩ | ⟨b1, b2⟩
    · rw [hmu j a1, hmu k b1] at hmm; exact hg.inj j k o1 o2 a2 b2 d1 d2 hmm
    · rw [hmu j a1, if_pos b1] at hmm; have := hg.lt j o1 a2 d1; omega
    · rw [hmu k b1, if_pos a1] at hmm; have := hg.lt k o2 b2 d2; omega
    · omega
  · intro b hb
    have hb' : C.w.heap.size < b := by have h : w'.heap.size ≤ b := hb; rw [hw] at h; simp at h; omega
    show (if b = C.w.heap.size then sz else C.S b) = 0
    rw [if_neg (by omega)]; exact hg.fresh b (by omega)
theorem AOp_append_zeroAt {t e sz by_ : Nat} {s x : Operand} (n : Nat) (hn : st.heap[n]? = some .dead) (zs : List Value) (ys : List AV) (tk : Tok) (hs : st.opd s = .sl .zero []) (hx : st.opd x = .sl tk ys)
    (ht : SliceT P t e) (hsz : SzOf P e sz) (hby : BytesOf P e by_) (hz : ZeroOf P e zs) (hz0 : zs.length = sz) (hpos : 0 < sz) (huy : Uni sz ys) (hcell : ∀ c, c ∈ flat ys → c.isCell = true) (hne : ys ≠ [])
    (hbound : ys.length * by_ ≤ 140737488355328) (h63 : ys.length ≤ 9223372036854775807)
    (k' : K (.sl (.own n) ys) (st.heap.set n (.tok e sz ys.length))) :
    AOp P ro ⟨dst, .call { callee := .builtin .append, args := #[s, x], argTypes := #[t, t] }, ty, pos, after, guard⟩ K st :=
  AOp_value (fun ρ => semAt_of (fun c => by simp) ro ρ) fun C a hg hH hsr => by
    have h1 := hsr.opd s
    have h2 := hsr.opd x
    rw [hs] at h1
    rw [hx] at h2
    obtain ⟨ad1, c1, e1, hc1, htok, _⟩ := sl_values h1
    obtain ⟨ad2, c2, e2, hc2, _, news, hnl, hnrel, hncell⟩ := sl_values h2
    obtain ⟨_, rfl⟩ := htok
    have hfy := flat_length huy
    have hm : 0 < ys.length := List.length_pos_iff.2 hne
    have hflne : flat ys ≠ [] := fun he => by rw [he] at hfy; have := Nat.mul_pos hm hpos; simp at hfy; omega
    obtain ⟨b2, o2, rfl, hnc2⟩ := hncell hflne
    obtain ⟨i, z, hi, i1, i2, i3, i4⟩ := info_of hsz hby hz
    have hnl' : news.length = ys.length * i.size := by rw [hnl, hfy, i1]
    obtain ⟨cap, hcap⟩ : ∃ cap, cap = grownCap C.w ys.length 0 e := ⟨_, rfl⟩
    have hcge : ys.length ≤ cap := by rw [hcap]; exact grownCap_ge _ _ _ _
    have hcle : cap ≤ maxLen := by rw [hcap]; exact grownCap_le_maxLen _ _ _ _ (by simp only [maxLen]; omega)
    obtain ⟨cur', hcur'⟩ : ∃ cur', cur' = news.toArray ++ Builtin.zeroCells z.cells (cap - ys.length) := ⟨_, rfl⟩
    have hrun : (Builtin.append_ #[t, t] ty #[.slice ad1 0 0, .slice (some ⟨b2, o2, none⟩) ys.length c2]).run P C.w = .ok (.slice (some ⟨C.w.heap.size, 0, none⟩) ys.length cap) (C.w.drew.alloc (.cells cur' e)) := by
      cases ad1 with
      | none =>
        have := run_append_nil (P := P) (ty := ty) C.w t e i z ht hi i3 ⟨b2, o2, none⟩ ys.length c2 news hnl' hnc2 hm (by omega) (by rw [i2]; omega)
        rw [this, hcur', hcap]
      | some a1 =>
        have := run_append_grow (P := P) (ty := ty) C.w t e i z ht hi i3 a1 0 0 [] (by simp) (fun j u hu => by simp at hu) ⟨b2, o2, none⟩ ys.length c2 news hnl' hnc2 (by omega) (by omega) (growslice_fits (by omega) (by rw [i2]; simpa using hbound))
        simp only [Nat.zero_add] at this
        rw [this, hcur', hcap]; simp
    have hzs : z.cells.size = sz := by rw [← hz0, ← i4]; simp
    have hcs' : cur'.size = cap * sz := by
      rw [hcur']; simp only [Array.size_append, List.size_toArray, size_zeroCells, hzs, hnl', i1, ← Nat.add_mul]
      congr 1; omega
    have hfit2 : ys.length * sz ≤ cur'.size := by rw [hcs']; exact Nat.mul_le_mul_right _ hcge
    have hnC : C.H[n]? = some .dead := by rw [hH]; exact hn
    have hnl := (List.getElem?_eq_some_iff.1 hnC).1
    obtain ⟨hg', hx'⟩ := step_atS (ys.length * sz) hg n hnC (.tok e sz ys.length) (.cells cur' e) (C.w.drew.alloc (.cells cur' e)) rfl ⟨rfl, rfl, rfl, by first | exact Nat.le_refl _ | exact Nat.le_add_right _ _⟩ (by simp [AObj.kind]) rfl (fun _ => by
      refine ⟨cur', ?_, ?_, hfit2⟩
      · simp only [if_true]; exact heap_alloc_new C.w.drew _
      · simp)
    refine ⟨_, .slice (some ⟨C.w.heap.size, 0, none⟩) ys.length cap, .sl (.own n) ys, ?_, hg', hx', ?_, by rw [← hH] at k'; exact k'⟩
    · simp only [List.length_nil] at e1
      simp only [execOp, resolve, invoke, builtin, List.map_toArray, List.map_cons, List.map_nil, Sem.run_bind, Sem.run_pure, Result.andThen_ok, e1, e2, hrun]
    · have hblk : (C.w.drew.alloc (.cells cur' e)).heap[C.w.heap.size]? = some (.cells cur' e (0, 0)) := heap_alloc_new C.w.drew _
      refine VRel.newSl (cur := cur') (e := e) (fr := (0, 0)) hblk rfl hcge ?_ ?_ ?_ _ ?_
      · rw [hfy]; show _ ≤ if _ then _ else _; rw [if_pos rfl]; omega
      · rw [hfy]; omega
      · intro j hj hj'
        have hgj : cur'[j]? = news[j]? := by
          rw [hcur', Array.getElem?_append_left (by simp; omega)]; simp
        rw [Array.getElem?_eq_getElem hj', List.getElem?_eq_getElem (by omega)] at hgj
        injection hgj with hgj
        rw [hgj]; exact (hnrel j hj (by omega)).ext hx'
      · refine ⟨e, sz, ys.length, by show (C.H.set n _)[n]? = _; simp [hnl], by simp, fun _ => ⟨cur', ?_, ?_, hcle, hcs'⟩⟩
        · simp
        · simp only [if_true]; exact hblk
def gSl (k : Nat) : List AV → AV
  | [] => .sl .zero []
  | x :: xs => .sl (.own k) (x :: xs)
def gTok (e sz : Nat) : List AV → AObj
  | [] => .dead
  | x :: xs => .tok e sz (x :: xs).length
theorem AOp_append_G {t e sz by_ : Nat} {s x : Operand} (zs : List Value) (k : Nat) (xs ys : List AV) (tk : Tok) (hs : st.opd s = gSl k xs) (hx : st.opd x = .sl tk ys) (hh : st.heap[k]? = some (gTok e sz xs))
    (ht : SliceT P t e) (hsz : SzOf P e sz) (hby : BytesOf P e by_) (hz : ZeroOf P e zs) (hz0 : zs.length = sz) (hpos : 0 < sz) (hux : Uni sz xs) (huy : Uni sz ys) (hcell : ∀ c, c ∈ flat ys → c.isCell = true)
    (hbound : (xs.length + ys.length) * by_ ≤ 140737488355328) (h63 : xs.length + ys.length ≤ 9223372036854775807)
    (k' : K (gSl k (xs ++ ys)) (st.heap.set k (gTok e sz (xs ++ ys)))) :
    AOp P ro ⟨dst, .call { callee := .builtin .append, args := #[s, x], argTypes := #[t, t] }, ty, pos, after, guard⟩ K st := by
  cases xs with
  | nil =>
    cases ys with
    | nil =>
      refine AOp_append_zero0 zs tk hs hx ht hsz hby hz ?_
      have : st.heap.set k (gTok e sz ([] ++ [])) = st.heap := by
        apply List.ext_getElem?
        intro i
        rw [List.getElem?_set]
        split
        · rename_i h; subst h
          have hl := (List.getElem?_eq_some_iff.1 hh).1
          simp only [hl, if_true]; exact hh.symm
        · rfl
      rw [this] at k'; exact k'
    | cons y ys => exact AOp_append_zeroAt k hh zs (y :: ys) tk hs hx ht hsz hby hz hz0 hpos huy hcell (by simp) (by simpa using hbound) (by simpa using h63) k'
  | cons x0 xs =>
    refine AOp_append_own zs k (x0 :: xs) ys tk hs hx hh ht hsz hby hz hz0 hpos hux huy hcell hbound h63 ?_
    have e1 : gSl k (x0 :: xs ++ ys) = .sl (.own k) (x0 :: xs ++ ys) := rfl
    have e2 : gTok e sz (x0 :: xs ++ ys) = .tok e sz ((x0 :: xs).length + ys.length) := by simp [gTok]; omega
    rw [e1, e2] at k'; exact k'
theorem scoped_gSl {n k : Nat} {xs : List AV} (hk : k < n) (h : ScopedL n xs) : Scoped n (gSl k xs) := by
  cases xs with
  | nil => simp [gSl, Scoped, ScopedL]
  | cons x xs => exact ⟨hk, h⟩
theorem gSl_cells (k : Nat) (xs : List AV) : (gSl k xs).cells = [gSl k xs] := by cases xs <;> rfl
theorem oscoped_gTok (n e sz : Nat) (xs : List AV) : OScoped n (gTok e sz xs) := by cases xs <;> trivial
end Ab
namespace Ab
open Go
theorem mapM_get {α β : Type} {f : α → Option β} : ∀ {l : List α} {r : List β}, l.mapM f = some r → r.length = l.length ∧ ∀ i (h : i < l.length) (h' : i < r.length), f l[i] = some r[i]
  | [], r, h => by simp at h; subst h; simp
  | a :: l, r, h => by
    rw [List.mapM_cons] at h
    cases ha : f a with
    | none => simp [ha] at h
    | some b =>
      cases hl : l.mapM f with
      | none => simp [ha, hl] at h
      | some r' =>
        simp [ha, hl] at h
        subst h
        obtain ⟨h1, h2⟩ := mapM_get hl
        refine ⟨by simp [h1], fun i hi hi' => ?_⟩
        cases i with
        | zero => simpa using ha
        | succ i => simpa using h2 i (by simpa using hi) (by simpa using hi')
theorem mapM_mk {α β : Type} {f : α → Option β} : ∀ {l : List α} {r : List β}, r.length = l.length → (∀ i (h : i < l.length) (h' : i < r.length), f l[i] = some r[i]) → l.mapM f = some r
  | [], r, h, _ => by cases r with | nil => rfl | cons _ _ => simp at h
  | a :: l, [], h, _ => by simp at h
  | a :: l, b :: r, h, hf => by
    rw [List.mapM_cons]
    have h0 := hf 0 (by simp) (by simp)
    simp only [List.getElem_cons_zero] at h0
    rw [h0, mapM_mk (f := f) (l := l) (r := r) (by simpa using h) (fun i h1 h2 => by have := hf (i + 1) (by simp; omega) (by simp; omega); simpa only [List.getElem_cons_succ] using this)]
    rfl
inductive Kd where
  | bool
  | int (k : IntKind)
  | str
  | slice (e : TypeId)
  | struct (l : List TypeId)
  | array (n : Nat) (e : TypeId)
  | other
def kindOf (P : Program) (t : TypeId) : Kd := match P.underlying t with
  | some .bool => .bool
  | some (.int k) => .int k
  | some .string => .str
  | some (.slice e) => .slice e
  | some (.struct fs) => .struct (fs.toList.map (·.type))
  | some (.array n e) => .array n e
  | _ => .other
def layL (P : Program) : List (TypeId × Nat) → Nat → Option Nat
  | [], k => some k
  | f :: fs, k => if f.2 = k then layL P fs (k + P.cellsOf f.1) else none
def layOk (P : Program) (t : TypeId) : Bool := match P.underlying t with
  | some (.struct fs) => decide (layL P (fs.toList.map fun f => (f.type, f.offset)) 0 = some (P.cellsOf t))
  | some (.array n e) => decide (n * P.cellsOf e = P.cellsOf t)
  | _ => true
def aggK (P : Program) (t : TypeId) : Bool := match kindOf P t with
  | .struct _ => true
  | .array _ _ => true
  | _ => false
def closedK (P : Program) (ts : List TypeId) : Bool := ts.all fun t => layOk P t && match kindOf P t with
  | .bool => true
  | .int _ => true
  | .str => true
  | .slice e => ts.contains e
  | .struct l => l.all fun t' => ts.contains t'
  | .array _ e => ts.contains e
  | .other => false
def pack (b : Bool) (l : List AV) : AV := if b then .agg l else l.headD .junk
def toAV {H : Type} (P : Program) : Nat → TypeId → DataW H → Option (List AV)
  | 0, _, _ => none
  | n + 1, t, d => match kindOf P t, d with
    | .bool, .lit (.bool b) => some [.bool b]
    | .int k, .lit (.int k' i) => if k' = k then some [.int k i] else none
    | .str, .lit (.string bs) => some [.str bs]
    | .slice _, .nil => some [.sl .none []]
    | .slice e, .slice elems _ => (elems.mapM (toAV P n e)).map fun xss => [.sl .none (xss.map (pack (aggK P e)))]
    | .struct l, .agg parts => if l.length = parts.length then ((l.zip parts).mapM fun p => toAV P n p.1 p.2).map List.flatten else none
    | .array k e, .agg parts => if k = parts.length then (parts.mapM (toAV P n e)).map List.flatten else none
    | _, _ => none
structure CellsR (C : Ctx) (avs : List AV) (cs : List Value) : Prop where
  len : avs.length = cs.length
  rel : ∀ i (h : i < avs.length) (h' : i < cs.length), VRel C avs[i] cs[i]
  cell : ∀ a, a ∈ avs → a.isCell = true
theorem CellsR.nil {C : Ctx} : CellsR C [] [] := ⟨rfl, fun i h => absurd h (by simp), fun a h => by simp at h⟩
theorem CellsR.one {C : Ctx} {a : AV} {v : Value} (h : VRel C a v) (hc : a.isCell = true) : CellsR C [a] [v] := ⟨rfl, fun i h1 h2 => by
  have : i = 0 := by simp at h1; omega
  subst this; simpa using h, fun b hb => by simp at hb; subst hb; exact hc⟩
theorem CellsR.append {C : Ctx} {a b : List AV} {x y : List Value} (h1 : CellsR C a x) (h2 : CellsR C b y) : CellsR C (a ++ b) (x ++ y) := by
  refine ⟨by simp [h1.len, h2.len], fun i hi hi' => ?_, fun z hz => ?_⟩
  · rw [List.getElem_append, List.getElem_append]
    by_cases h : i < a.length
    · have h' : i < x.length := by rw [← h1.len]; exact h
      rw [dif_pos h, dif_pos h']; exact h1.rel i h h'
    · have h' : ¬ i < x.length := by rw [← h1.len]; exact h
      rw [dif_neg h, dif_neg h']
      simp only [h1.len]
      exact h2.rel _ (by simp at hi; have := h1.len; omega) (by simp at hi'; omega)
  · rcases List.mem_append.1 hz with h | h
    · exact h1.cell z h
    · exact h2.cell z h
theorem cells_isCell {a : AV} (h : a.isCell = true) : a.cells = [a] := by cases a <;> first | rfl | (simp [AV.isCell] at h)
section
variable {H : Type} {enc : TypeId × Value → H} {P : Program} {base : Nat} {spare : Nat → Bool} {held : Bool} {C : Ctx}
theorem toAV_one {n : Nat} {t : TypeId} {d : DataW H} {avs : List AV} (hk : aggK P t = false) (h : toAV P n t d = some avs) : ∃ a, avs = [a] := by
  cases n with
  | zero => simp [toAV] at h
  | succ n =>
    unfold toAV at h
    unfold aggK at hk
    split at h
    · simp at h; exact ⟨_, h.symm⟩
    · split at h
      · simp at h; exact ⟨_, h.symm⟩
      · cases h
    · simp at h; exact ⟨_, h.symm⟩
    · simp at h; exact ⟨_, h.symm⟩
    · rw [Option.map_eq_some_iff] at h; obtain ⟨x, _, rfl⟩ := h; exact ⟨_, rfl⟩
    · simp_all
    · simp_all
    · cases h
theorem row_rel (b sz : Nat) : ∀ (xss : List (List AV)) (o : Nat), (∀ i (h : i < xss.length), ∃ cs, CellsR C xss[i] cs ∧ cs.length = sz ∧ ∀ j (hj : j < cs.length), C.w.cell? ⟨b, o + i * sz + j, none⟩ = some cs[j]) →
    ∀ j (hj : j < xss.flatten.length), ∃ v, C.w.cell? ⟨b, o + j, none⟩ = some v ∧ VRel C xss.flatten[j] v
  | [], o, _, j, hj => by simp at hj
  | xs :: xss, o, h, j, hj => by
    obtain ⟨cs, h1, h2, h3⟩ := h 0 (by simp)
    simp only [List.getElem_cons_zero, Nat.zero_mul, Nat.add_zero] at h1 h3
    have hl := h1.len
    by_cases hjx : j < xs.length
    · refine ⟨cs[j]'(by omega), h3 j (by omega), ?_⟩
      have e : (xs :: xss).flatten[j] = xs[j] := by simp only [List.flatten_cons]; rw [List.getElem_append_left hjx]
      rw [e]; exact h1.rel j hjx (by omega)
    · have hj' : j - xs.length < xss.flatten.length := by simp only [List.flatten_cons, List.length_append] at hj; omega
      obtain ⟨v, e1, e2⟩ := row_rel b sz xss (o + sz) (fun i hi => by
        obtain ⟨cs', a1, a2, a3⟩ := h (i + 1) (by simp; omega)
        simp only [List.getElem_cons_succ] at a1
        refine ⟨cs', a1, a2, fun j hj => ?_⟩
        rw [← a3 j hj]; congr 2; rw [Nat.add_mul]; omega) (j - xs.length) hj'
      refine ⟨v, ?_, ?_⟩
      · rw [← e1]; congr 2; omega
      · have e : (xs :: xss).flatten[j] = xss.flatten[j - xs.length] := by simp only [List.flatten_cons]; rw [List.getElem_append_right (by omega)]
        rw [e]; exact e2
theorem flat_pack {b : Bool} : ∀ {xss : List (List AV)}, (∀ xs, xs ∈ xss → (∀ a, a ∈ xs → a.isCell = true) ∧ (b = false → ∃ a, xs = [a])) → flat (xss.map (pack b)) = xss.flatten
  | [], _ => rfl
  | xs :: xss, h => by
    have h1 := h xs (by simp)
    have ih := flat_pack (b := b) (xss := xss) (fun ys hy => h ys (by simp [hy]))
    have e : (pack b xs).cells = xs := by
      cases b with
      | true => rfl
      | false =>
        obtain ⟨a, rfl⟩ := h1.2 rfl
        exact cells_isCell (h1.1 a (by simp))
    have : flat (List.map (pack b) (xs :: xss)) = (pack b xs).cells ++ flat (List.map (pack b) xss) := by simp [flat]
    rw [this, ih, e]; rfl
theorem cells_read {w : World} {a : Addr} {n : Nat} {cs : List Value} (h : w.cells? base a n = some cs) : cs.length = n ∧ ∀ j (hj : j < cs.length), w.cell? (a.add j) = some cs[j] := by
  unfold World.cells? at h
  split at h
  · obtain ⟨h1, h2⟩ := mapM_get h
    refine ⟨by simpa using h1, fun j hj => ?_⟩
    have := h2 j (by rw [← h1]; exact hj) hj
    simpa using this
  · cases h
theorem struct_av {ts : List TypeId} {cs : List Value} {n : Nat} (ih : ∀ t cs d ps, DataW.trod enc P C.w base spare held n t cs = some (d, ps) → t ∈ ts → ∃ avs, toAV P n t d = some avs ∧ CellsR C avs cs) :
    ∀ (fs : List (TypeId × Nat)) (k total : Nat) (xs : List (DataW H × List MemPlace)), (∀ f, f ∈ fs → f.1 ∈ ts) → layL P fs k = some total → total ≤ cs.length →
      fs.mapM (fun f => DataW.trod enc P C.w base spare held n f.1 ((cs.drop f.2).take (P.cellsOf f.1))) = some xs →
      ∃ avs, ((fs.map (·.1)).zip (xs.map (·.1))).mapM (fun p => toAV P n p.1 p.2) = some avs ∧ CellsR C avs.flatten ((cs.drop k).take (total - k)) ∧ xs.length = fs.length ∧ k ≤ total
  | [], k, total, xs, _, hl, _, h => by
    simp [layL] at hl
    subst hl
    simp at h
    subst h
    exact ⟨[], rfl, by simp; exact CellsR.nil, rfl, Nat.le_refl _⟩
  | f :: fs, k, total, xs, hf, hl, ht, h => by
    unfold layL at hl
    split at hl
    · rename_i hk
      rw [List.mapM_cons] at h
      cases h1 : DataW.trod enc P C.w base spare held n f.1 ((cs.drop f.2).take (P.cellsOf f.1)) with
      | none => simp [h1] at h
      | some x =>
        cases h2 : fs.mapM (fun f => DataW.trod enc P C.w base spare held n f.1 ((cs.drop f.2).take (P.cellsOf f.1))) with
        | none => simp [h1, h2] at h
        | some xs' =>
          simp [h1, h2] at h
          subst h
          obtain ⟨d, ps⟩ := x
          obtain ⟨avs, a1, a2⟩ := ih _ _ _ _ h1 (hf f (by simp))
          obtain ⟨avss, b1, b2, b3, b4⟩ := struct_av ih fs _ total xs' (fun g hg => hf g (by simp [hg])) hl ht h2
          refine ⟨avs :: avss, ?_, ?_, by simp [b3], by omega⟩
          · simp only [List.map_cons, List.zip_cons_cons, List.mapM_cons, a1, b1]; rfl
          · have hs : (cs.drop k).take (total - k) = (cs.drop k).take (P.cellsOf f.1) ++ (cs.drop (k + P.cellsOf f.1)).take (total - (k + P.cellsOf f.1)) := by
              rw [← List.drop_drop, ← List.take_append_drop (P.cellsOf f.1) ((cs.drop k).take (total - k)), List.take_take, List.drop_take, Nat.min_eq_left (by omega)]
              congr 2; omega
            rw [hs, List.flatten_cons]
            rw [hk] at a2
            exact a2.append b2
    · cases hl
  termination_by fs => fs.length
theorem mapM_map2 {α β γ : Type} {f : α → Option β} {g : α → γ} {f' : γ → Option β} (h : ∀ a, f' (g a) = f a) {l : List α} {r : List β} (hm : l.mapM f = some r) : (l.map g).mapM f' = some r := by
  obtain ⟨h1, h2⟩ := mapM_get hm
  exact mapM_mk (by simp [h1]) (fun i hi hi' => by simp only [List.getElem_map, h]; exact h2 i (by simpa using hi) hi')
def offs (e : TypeId) (sz : Nat) : Nat → Nat → List (TypeId × Nat)
  | 0, _ => []
  | n + 1, i => (e, i * sz) :: offs e sz n (i + 1)
theorem offs_length (e : TypeId) (sz : Nat) : ∀ n i, (offs e sz n i).length = n
  | 0, _ => rfl
  | n + 1, i => by simp [offs, offs_length e sz n]
theorem offs_get (e : TypeId) (sz : Nat) : ∀ (n i j : Nat) (h : j < (offs e sz n i).length), (offs e sz n i)[j] = (e, (i + j) * sz)
  | 0, _, j, h => by simp [offs] at h
  | n + 1, i, 0, h => by simp [offs]
  | n + 1, i, j + 1, h => by
    simp only [offs, List.getElem_cons_succ]
    rw [offs_get e sz n (i + 1) j]; congr 2; omega
theorem offs_lay (P : Program) (e : TypeId) : ∀ n i, layL P (offs e (P.cellsOf e) n i) (i * P.cellsOf e) = some ((i + n) * P.cellsOf e)
  | 0, i => by simp [offs, layL]
  | n + 1, i => by
    have := offs_lay P e n (i + 1)
    simp only [offs, layL, if_true]
    rw [show i * P.cellsOf e + P.cellsOf e = (i + 1) * P.cellsOf e by rw [Nat.add_mul]; omega, this]
    congr 2; omega
theorem offs_fst (e : TypeId) (sz : Nat) : ∀ n i, (offs e sz n i).map (·.1) = List.replicate n e
  | 0, _ => rfl
  | n + 1, i => by simp [offs, offs_fst e sz n, List.replicate_succ]
theorem zip_rep {α β : Type} (e : α) : ∀ (l : List β), (List.replicate l.length e).zip l = l.map fun d => (e, d)
  | [] => rfl
  | d :: l => by simp [List.replicate_succ, zip_rep e l]
theorem closedK_mem {ts : List TypeId} (hts : closedK P ts = true) {t : TypeId} (ht : t ∈ ts) : layOk P t = true ∧ match kindOf P t with
    | .bool => True
    | .int _ => True
    | .str => True
    | .slice e => e ∈ ts
    | .struct l => ∀ t', t' ∈ l → t' ∈ ts
    | .array _ e => e ∈ ts
    | .other => False := by
  unfold closedK at hts
  rw [List.all_eq_true] at hts
  have := hts t ht
  rw [Bool.and_eq_true] at this
  refine ⟨this.1, ?_⟩
  have h2 := this.2
  cases hk : kindOf P t <;> simp only [hk] at h2 ⊢
  · simpa using h2
  · intro t' ht'
    rw [List.all_eq_true] at h2
    simpa using h2 t' ht'
  · simpa using h2
  · cases h2
theorem add_none {a : Addr} (h : a.spot = none) (i : Nat) : a.add i = ⟨a.block, a.off + i, none⟩ := by
  unfold Addr.add
  split
  · rename_i h0; subst h0; cases a; simp_all
  · rfl
theorem trod_av (hS : ∀ b o v, C.w.cell? ⟨b, o, none⟩ = some v → o < C.S b) {ts : List TypeId} (hts : closedK P ts = true) :
    ∀ (n : Nat) (t : TypeId) (cs : List Value) (d : DataW H) (ps : List MemPlace), DataW.trod enc P C.w base spare held n t cs = some (d, ps) → t ∈ ts → ∃ avs, toAV P n t d = some avs ∧ CellsR C avs cs := by
  intro n
  induction n with
  | zero => intro t cs d ps h _; simp [DataW.trod] at h
  | succ n ih =>
    intro t cs d ps h ht
    obtain ⟨hlay, hk⟩ := closedK_mem hts ht
    unfold DataW.trod at h
    unfold toAV
    unfold kindOf at hk ⊢
    split at h
    case h_1 b hu => simp only [hu] at hk ⊢; simp at h; obtain ⟨rfl, rfl⟩ := h; exact ⟨_, rfl, .one (.bool _) rfl⟩
    case h_2 k k' i hu =>
      simp only [hu] at hk ⊢
      split at h
      · rename_i hc; simp at h; obtain ⟨rfl, rfl⟩ := h; simp only [if_true]; exact ⟨_, rfl, by rw [hc.1]; exact .one (.int _ _) rfl⟩
      · cases h
    case h_3 hu => simp only [hu] at hk
    case h_4 s hu =>
      simp only [hu] at hk ⊢
      split at h
      · simp at h; obtain ⟨rfl, rfl⟩ := h
        refine ⟨_, rfl, .one ?_ rfl⟩
        have := VRel.str (C := C) s.data.toList
        simpa using this
      · cases h
    case h_5 hu => simp only [hu] at hk
    case h_6 hu => simp only [hu] at hk
    case h_7 e hu =>
      simp only [hu] at hk ⊢; simp at h; obtain ⟨rfl, rfl⟩ := h
      exact ⟨_, rfl, .one (.sl .none [] none 0 0 (fun _ => .bool false) rfl (Nat.le_refl _) (fun h => absurd rfl h) (fun j h => absurd h (by simp [flat])) trivial) rfl⟩
    case h_8 e a len cap hu =>
      simp only [hu] at hk ⊢
      split at h
      case isFalse => cases h
      case isTrue hc =>
        rw [Option.bind_eq_some_iff] at h
        obtain ⟨elems, hm, h⟩ := h
        rw [Option.map_eq_some_iff] at h
        obtain ⟨rest, _, h⟩ := h
        simp only [Prod.mk.injEq] at h
        obtain ⟨rfl, rfl⟩ := h
        obtain ⟨h1, h2⟩ := mapM_get hm
        simp only [List.length_range] at h1
        have hel : ∀ i (hi : i < elems.length), ∃ cs', C.w.cells? base (a.add (i * P.cellsOf e)) (P.cellsOf e) = some cs' ∧ DataW.trod enc P C.w base spare held n e cs' = some elems[i] := by
          intro i hi
          have := h2 i (by simpa using h1 ▸ hi) hi
          simp only [List.getElem_range] at this
          rw [Option.bind_eq_some_iff] at this
          exact this
        have hav : ∀ i (hi : i < elems.length), ∃ avs, toAV P n e elems[i].1 = some avs ∧ ∃ cs', C.w.cells? base (a.add (i * P.cellsOf e)) (P.cellsOf e) = some cs' ∧ CellsR C avs cs' := by
          intro i hi
          obtain ⟨cs', e1, e2⟩ := hel i hi
          obtain ⟨avs, e3, e4⟩ := ih e cs' elems[i].1 elems[i].2 e2 hk
          exact ⟨avs, e3, cs', e1, e4⟩
        obtain ⟨xss, x1, x2⟩ : ∃ xss : List (List AV), xss.length = elems.length ∧ ∀ i (hi : i < elems.length) (hi' : i < xss.length), toAV P n e elems[i].1 = some xss[i] ∧ ∃ cs', C.w.cells? base (a.add (i * P.cellsOf e)) (P.cellsOf e) = some cs' ∧ CellsR C xss[i] cs' := by
          refine ⟨(List.range elems.length).map fun i => if h : i < elems.length then Classical.choose (hav i h) else [], by simp, fun i hi hi' => ?_⟩
          simp only [List.getElem_map, List.getElem_range, hi, dif_pos]
          exact Classical.choose_spec (hav i hi)
        have hmap : (elems.map (·.1)).mapM (toAV P n e) = some xss := mapM_mk (by simp [x1]) (fun i hi hi' => by simp only [List.getElem_map]; exact (x2 i (by simpa using hi) hi').1)
        have hpk : ∀ xs, xs ∈ xss → (∀ a, a ∈ xs → a.isCell = true) ∧ (aggK P e = false → ∃ a, xs = [a]) := by
          intro xs hxs
          obtain ⟨i, hi, rfl⟩ := List.getElem_of_mem hxs
          obtain ⟨y1, cs', y2, y3⟩ := x2 i (by omega) hi
          exact ⟨y3.cell, fun hb => toAV_one hb y1⟩
        have hfl := flat_pack hpk
        have hspot : ∀ i (hi : i < elems.length), 0 < P.cellsOf e → a.spot = none := by
          intro i hi hpos
          obtain ⟨y1, cs', y2, y3⟩ := x2 0 (by omega) (by omega)
          obtain ⟨z1, z2⟩ := cells_read y2
          have := z2 0 (by omega)
          rw [Nat.zero_mul] at this
          have e0 : (a.add 0).add 0 = a := by simp [Addr.add]
          rw [e0] at this
          unfold World.cell? at this
          split at this
          · split at this
            · cases this
            · rename_i hs; cases hsp : a.spot with
              | none => rfl
              | some _ => simp [hsp] at hs
          · cases this
        refine ⟨[.sl .none (xss.map (pack (aggK P e)))], by change Option.map _ (List.mapM _ _) = _; rw [hmap]; rfl, .one ?_ rfl⟩
        by_cases hz : P.cellsOf e = 0
        · have hnil : xss.flatten = [] := by
            rw [List.flatten_eq_nil_iff]
            intro xs hxs
            obtain ⟨i, hi, rfl⟩ := List.getElem_of_mem hxs
            obtain ⟨y1, cs', y2, y3⟩ := x2 i (by omega) hi
            have := (cells_read y2).1
            exact List.eq_nil_of_length_eq_zero (by rw [y3.len]; omega)
          exact .sl .none _ (some a) len cap (fun _ => .bool false) (by simp [x1, h1]) hc.2.1 (fun h => absurd (hfl.trans hnil) h) (fun j hj => by rw [hfl, hnil] at hj; simp at hj) trivial
        · have hrows : ∀ (hne : 0 < elems.length), ∀ j (hj : j < xss.flatten.length), ∃ v, C.w.cell? ⟨a.block, a.off + j, none⟩ = some v ∧ VRel C xss.flatten[j] v := by
            intro hne
            have hsp := hspot 0 hne (by omega)
            refine row_rel a.block (P.cellsOf e) xss a.off (fun i hi => ?_)
            obtain ⟨y1, cs', y2, y3⟩ := x2 i (by omega) hi
            obtain ⟨z1, z2⟩ := cells_read y2
            refine ⟨cs', y3, z1, fun j hj => ?_⟩
            have := z2 j hj
            rw [add_none hsp, add_none rfl] at this
            exact this
          have hne : xss.flatten ≠ [] → 0 < elems.length := by
            intro h
            rcases Nat.eq_zero_or_pos elems.length with h0 | h0
            · exact absurd (by rw [List.eq_nil_of_length_eq_zero (show xss.length = 0 by omega)]; rfl) h
            · exact h0
          refine .sl .none _ (some a) len cap (fun j => (C.w.cell? ⟨a.block, a.off + j, none⟩).getD (.bool false)) (by simp [x1, h1]) hc.2.1 (fun h => ?_) (fun j hj => ?_) trivial
          · rw [hfl] at h
            have h0 := hne h
            refine ⟨a.block, a.off, ?_, fun j hj => ?_⟩
            · have := hspot 0 h0 (by omega)
              cases a; simp_all
            · rw [hfl] at hj
              obtain ⟨v, e1, e2⟩ := hrows h0 j hj
              exact ⟨hS _ _ _ e1, by simp only [e1, Option.getD_some]⟩
          · have hj' : j < xss.flatten.length := by rw [hfl] at hj; exact hj
            obtain ⟨v, e1, e2⟩ := hrows (hne (fun e => by rw [e] at hj'; simp at hj')) j hj'
            rw [e1]
            simp only [hfl]
            exact e2
    case h_9 fs hu =>
      simp only [hu] at hk ⊢
      split at h
      case isFalse => cases h
      case isTrue hc =>
        rw [Option.map_eq_some_iff] at h
        obtain ⟨xs, hm, h⟩ := h
        simp only [Prod.mk.injEq] at h
        obtain ⟨rfl, rfl⟩ := h
        unfold layOk at hlay
        simp only [hu, decide_eq_true_eq] at hlay
        obtain ⟨avs, a1, a2, a3, _⟩ := struct_av (ts := ts) (cs := _) (fun t cs d ps h ht => ih t cs d ps h ht) (fs.toList.map fun f => (f.type, f.offset)) 0 (P.cellsOf t) xs (fun f hf => by rw [List.mem_map] at hf; obtain ⟨g, hg, rfl⟩ := hf; exact hk _ (List.mem_map_of_mem hg)) hlay (Nat.le_of_eq hc.symm) (mapM_map2 (fun _ => rfl) hm)
        refine ⟨avs.flatten, ?_, ?_⟩
        · rw [List.map_map] at a1
          change (if _ then _ else _) = _; rw [if_pos (by simpa using a3.symm)]
          rw [show (fs.toList.map (·.type)) = fs.toList.map ((·.1) ∘ fun f => (f.type, f.offset)) from rfl, a1]; rfl
        · rw [List.drop_zero, Nat.sub_zero, List.take_of_length_le (Nat.le_of_eq hc)] at a2; exact a2
    case h_10 k e hu =>
      simp only [hu] at hk ⊢
      split at h
      case isFalse => cases h
      case isTrue hc =>
        rw [Option.map_eq_some_iff] at h
        obtain ⟨xs, hm, h⟩ := h
        simp only [Prod.mk.injEq] at h
        obtain ⟨rfl, rfl⟩ := h
        unfold layOk at hlay
        simp only [hu, decide_eq_true_eq] at hlay
        obtain ⟨g1, g2⟩ := mapM_get hm
        simp only [List.length_range] at g1
        have hm2 : (offs e (P.cellsOf e) k 0).mapM (fun f => DataW.trod enc P C.w base spare held n f.1 ((List.drop f.2 _).take (P.cellsOf f.1))) = some xs := mapM_mk (by rw [offs_length, g1]) (fun i hi hi' => by
          rw [offs_get]
          have := g2 i (by simpa [offs_length] using hi) hi'
          simp only [List.getElem_range] at this
          simpa using this)
        have hl0 := offs_lay P e k 0
        rw [Nat.zero_mul, Nat.zero_add, hlay] at hl0
        obtain ⟨avs, a1, a2, a3, _⟩ := struct_av (ts := ts) (cs := _) (fun t cs d ps h ht => ih t cs d ps h ht) (offs e (P.cellsOf e) k 0) 0 (P.cellsOf t) xs (fun f hf => by
          obtain ⟨i, hi, rfl⟩ := List.getElem_of_mem hf
          rw [offs_get]; exact hk) hl0 (Nat.le_of_eq hc.symm) hm2
        refine ⟨avs.flatten, ?_, ?_⟩
        · rw [offs_fst, show k = (xs.map (·.1)).length by simp [g1], zip_rep] at a1
          obtain ⟨b1, b2⟩ := mapM_get a1
          have hm3 : (xs.map (·.1)).mapM (toAV P n e) = some avs := mapM_mk (by simpa using b1) (fun i hi hi' => by
            have := b2 i (by simpa using hi) hi'
            simpa using this)
          change (if _ then _ else _) = _
          rw [if_pos (by simp [g1]), hm3]; rfl
        · rw [List.drop_zero, Nat.sub_zero, List.take_of_length_le (Nat.le_of_eq hc)] at a2; exact a2
    all_goals first | (cases h; done) | (rename_i hu; simp only [hu] at hk; done)
end
end Ab
namespace Ab
open Go Go.Proofs
section
variable {H : Type} {enc : TypeId × Value → H} {P : Program}
theorem toAV_str {n : Nat} {t : TypeId} {d : DataW H} {avs : List AV} (hk : kindOf P t = .str) (h : toAV P n t d = some avs) : ∃ bs, d = .lit (.string bs) ∧ avs = [.str bs] := by
  cases n with
  | zero => simp [toAV] at h
  | succ n => unfold toAV at h; rw [hk] at h; split at h <;> first | (cases h; done) | simp_all
theorem toAV_bool {n : Nat} {t : TypeId} {d : DataW H} {avs : List AV} (hk : kindOf P t = .bool) (h : toAV P n t d = some avs) : ∃ b, d = .lit (.bool b) ∧ avs = [.bool b] := by
  cases n with
  | zero => simp [toAV] at h
  | succ n => unfold toAV at h; rw [hk] at h; split at h <;> first | (cases h; done) | simp_all
theorem toAV_int {n : Nat} {t : TypeId} {k : IntKind} {d : DataW H} {avs : List AV} (hk : kindOf P t = .int k) (h : toAV P n t d = some avs) : ∃ i, d = .lit (.int k i) ∧ avs = [.int k i] := by
  cases n with
  | zero => simp [toAV] at h
  | succ n =>
    unfold toAV at h; rw [hk] at h
    split at h
    · simp_all
    · rename_i e
      injection e with e
      subst e
      split at h
      · rename_i e2; subst e2; simp at h; exact ⟨_, rfl, h.symm⟩
      · cases h
    all_goals first | (cases h; done) | simp_all
theorem toAV_struct {n : Nat} {t : TypeId} {l : List TypeId} {d : DataW H} {avs : List AV} (hk : kindOf P t = .struct l) (h : toAV P n t d = some avs) :
    ∃ m parts avss, n = m + 1 ∧ d = .agg parts ∧ l.length = parts.length ∧ (l.zip parts).mapM (fun p => toAV P m p.1 p.2) = some avss ∧ avs = avss.flatten := by
  cases n with
  | zero => simp [toAV] at h
  | succ n =>
    unfold toAV at h; rw [hk] at h
    split at h
    case h_6 l' parts e =>
      injection e with e
      subst e
      split at h
      · rename_i hl
        rw [Option.map_eq_some_iff] at h
        obtain ⟨avss, h1, h2⟩ := h
        exact ⟨n, parts, avss, rfl, rfl, hl, h1, h2.symm⟩
      · cases h
    all_goals first | (cases h; done) | simp_all
theorem toAV_slice {n : Nat} {t e : TypeId} {d : DataW H} {avs : List AV} (hk : kindOf P t = .slice e) (h : toAV P n t d = some avs) :
    ∃ m xss ds, n = m + 1 ∧ avs = [.sl .none (xss.map (pack (aggK P e)))] ∧ ds.mapM (toAV P m e) = some xss ∧ ((d = .nil ∧ ds = []) ∨ ∃ sp, d = .slice ds sp) := by
  cases n with
  | zero => simp [toAV] at h
  | succ n =>
    unfold toAV at h; rw [hk] at h
    split at h
    case h_4 e' he => simp at h; exact ⟨n, [], [], rfl, h.symm, rfl, .inl ⟨rfl, rfl⟩⟩
    case h_5 e' elems sp he =>
      injection he with he
      subst he
      rw [Option.map_eq_some_iff] at h
      obtain ⟨xss, h1, h2⟩ := h
      exact ⟨n, xss, elems, rfl, h2.symm, h1, .inr ⟨sp, rfl⟩⟩
    all_goals first | (cases h; done) | simp_all
theorem row_form {α : Type} (en : α → AV) (w : α → Nat) (bulk : DataW H → Nat) {t e : TypeId} (hk : kindOf P t = .slice e) {n : Nat} (he : ∀ m d avs, m < n → toAV P m e d = some avs → ∃ x, pack (aggK P e) avs = en x ∧ w x ≤ bulk d) {d : DataW H} {avs : List AV}
    (h : toAV P n t d = some avs) : ∃ (xs : List α) (ds : List (DataW H)), avs = [.sl .none (xs.map en)] ∧ (xs.map w).sum ≤ (ds.map bulk).sum ∧ xs.length = ds.length ∧ ((d = .nil ∧ ds = []) ∨ ∃ sp, d = .slice ds sp) := by
  obtain ⟨m, xss, ds, rfl, rfl, hm, hd⟩ := toAV_slice hk h
  have : ∃ xs : List α, xss.map (pack (aggK P e)) = xs.map en ∧ (xs.map w).sum ≤ (ds.map bulk).sum ∧ xs.length = ds.length := by
    clear hd h
    induction ds generalizing xss with
    | nil => simp at hm; subst hm; exact ⟨[], rfl, by simp, rfl⟩
    | cons d ds ih =>
      rw [List.mapM_cons] at hm
      cases h1 : toAV P m e d with
      | none => simp [h1] at hm
      | some a =>
        cases h2 : ds.mapM (toAV P m e) with
        | none => simp [h1, h2] at hm
        | some ass =>
          simp [h1, h2] at hm
          subst hm
          obtain ⟨xs, e1, e2, e3⟩ := ih ass h2
          obtain ⟨x, x1, x2⟩ := he m d a (by omega) h1
          exact ⟨x :: xs, by simp [x1, e1], by simp; omega, by simp [e3]⟩
  obtain ⟨xs, h1, h2, h3⟩ := this
  exact ⟨xs, ds, by rw [h1], h2, h3, hd⟩
def ctx0 (W : World) : Ctx := ⟨fun b => match W.heap[b]? with | some (.cells c _ _) => c.size | _ => 0, fun k => k, [], W⟩
def TabW (W : World) : Prop := tabOn = true → ∃ e fr, W.heap[tabB]? = some (.cells tabA e fr)
theorem good0 (W : World) (ht : TabW W) : Good (ctx0 W) := by
  refine ⟨fun k o h => by simp [ctx0] at h, fun k o h => by simp [ctx0] at h, fun j k o o' h => by simp [ctx0] at h, fun b hb => ?_, fun h => ⟨ht h, fun k o h => by simp [ctx0] at h⟩⟩
  have : (ctx0 W).w = W := rfl
  rw [this] at hb
  simp only [ctx0]
  rw [Array.getElem?_eq_none (by omega)]
theorem ctx0_cell (W : World) : ∀ b o v, (ctx0 W).w.cell? ⟨b, o, none⟩ = some v → o < (ctx0 W).S b := by
  intro b o v h
  simp only [ctx0] at h ⊢
  unfold World.cell? at h
  split at h
  · rename_i c _ _ he
    simp only at he
    rw [he]
    simp only [Option.isSome_none, Bool.false_eq_true, if_false] at h
    exact (Array.getElem?_eq_some_iff.1 h).1
  · cases h
theorem arg_struct {W : World} {ts : List TypeId} (hts : closedK P ts = true) {t : TypeId} (ht : t ∈ ts) {v : Value} {d : DataW H} {ps : List MemPlace} {base : Nat} {spare : Nat → Bool} {held : Bool} {l : Array Field} (hu : P.underlying t = some (.struct l)) {r : Reach} {b0 : Nat}
    (hok : Value.okWide P W r b0 t v) (h : DataW.Trod enc P W base spare held t v d ps) : ∃ n avs, toAV P n t d = some avs ∧ VRel (ctx0 W) (.agg avs) v := by
  obtain ⟨n, hn⟩ := h
  obtain ⟨avs, h1, h2⟩ := trod_av (C := ctx0 W) (ctx0_cell W) hts n t _ d ps hn ht
  unfold Value.okWide at hok
  rw [hu] at hok
  obtain ⟨cs, rfl, _, _⟩ := hok
  refine ⟨n, avs, h1, .agg avs cs ?_ (fun i hi => ?_)⟩
  · exact h2.len.symm
  · have := h2.rel i hi (by rw [← h2.len]; exact hi)
    simpa [Value.cells] using this
theorem arg_slice {W : World} {ts : List TypeId} (hts : closedK P ts = true) {t e : TypeId} (ht : t ∈ ts) {v : Value} {d : DataW H} {ps : List MemPlace} {base : Nat} {spare : Nat → Bool} {held : Bool} (hu : P.underlying t = some (.slice e)) {r : Reach} {b0 : Nat}
    (hok : Value.okWide P W r b0 t v) (h : DataW.Trod enc P W base spare held t v d ps) : ∃ n a, toAV P n t d = some [a] ∧ VRel (ctx0 W) a v := by
  obtain ⟨n, hn⟩ := h
  obtain ⟨avs, h1, h2⟩ := trod_av (C := ctx0 W) (ctx0_cell W) hts n t _ d ps hn ht
  have hagg : aggK P t = false := by unfold aggK kindOf; rw [hu]
  obtain ⟨a, rfl⟩ := toAV_one hagg h1
  refine ⟨n, a, h1, ?_⟩
  have hv : v.cells.toList = [v] := by
    unfold Value.okWide at hok
    rw [hu] at hok
    cases v <;> first | rfl | (unfold Cell.okWide at hok; simp [hu] at hok; done) | (simp [Cell.okWide, Cell.ok, hu] at hok; done)
  have := h2.rel 0 (by simp) (by rw [hv]; simp)
  simp only [hv] at this
  simpa using this
theorem law_calls {f : Nat} {args : Array Value} {avs : List AV} (h : ∀ C (vs : Array Value), Good C → C.H = [] → vs.size = avs.length → (∀ i (h : i < avs.length) (h' : i < vs.size), VRel C avs[i] vs[i]) →
    Calls P f vs C.w fun e w' => ∃ v r C', e = .returned v ∧ C'.w = w' ∧ Good C' ∧ Ext C C' ∧ VRel C' r v ∧ (r = .bool true ∧ C'.H = [])) {W : World} (ht : TabW W) (hsz : args.size = avs.length) (hv : ∀ i (h : i < avs.length) (h' : i < args.size), VRel (ctx0 W) avs[i] args[i]) :
    Calls P f args W fun e w' => e = .returned (.bool true) ∧ RowKit.Below W.heap.size W w' :=
  (h (ctx0 W) args (good0 W ht) rfl hsz hv).mono fun e w' ⟨v, r, C', he, hw, hg, hx, hvr, hr, _⟩ => by
    subst hr
    subst hw
    cases hvr
    exact ⟨he, hx.os, hx.tape, hx.output, hx.size, fun k hk => hx.frame k hk (fun k o ho => by simp [ctx0] at ho)⟩
theorem trodAll_stays (hl : laidOutB P = true) {W W' : World} (hb : RowKit.Below W.heap.size W W') {sp' : Nat → Bool} : ∀ {ts : List TypeId} {vs : List Value} {ds : List (DataW H)} {ps : List MemPlace}, (∀ t, t ∈ ts → P.readableRec t = true ∧ t < P.types.size) →
    DataW.TrodAll enc P W 0 (fun _ => true) true ts vs ds ps → (∀ p, p ∈ ps → p.block < W.heap.size) → (∀ p, p ∈ ps → sp' p.block = true) → DataW.TrodAll enc P W' 0 sp' true ts vs ds ps
  | [], [], [], _, _, h, _, _ => h
  | t :: ts, v :: vs, d :: ds, ps, hr, ⟨p, q, h1, h2, e⟩, hlt, hs => by
    subst e
    exact ⟨p, q, WideElems.Trod_stays hl (hr t (by simp)).1 (hr t (by simp)).2 h1 (fun x hx => hb.same (hlt x (List.mem_append_left _ hx))) (fun x hx => hs x (List.mem_append_left _ hx)),
      trodAll_stays hl hb (fun u hu => hr u (by simp [hu])) h2 (fun x hx => hlt x (List.mem_append_right _ hx)) (fun x hx => hs x (List.mem_append_right _ hx)), rfl⟩
  | [], [], _ :: _, _, _, h, _, _ => h.elim
  | [], _ :: _, _, _, _, h, _, _ => h.elim
  | _ :: _, [], _, _, _, h, _, _ => h.elim
  | _ :: _, _ :: _, [], _, _, h, _, _ => h.elim
open Go.ChangeShapes Go.RowKit in
theorem post_law {f : Func} {s : ChangeSpec} {apart fresh handsOn again : Bool} {W W' : World} {args : Array Value} {ds : List (DataW H)} {before : List MemPlace} (hvars : s.vars = []) (hsp : (s.fn H ds).results = [.lit (.bool true)] ∧ (s.fn H ds).args = ds ∧ (s.fn H ds).vars = [])
    (hW : DataW.Whole enc P f.params.toList s.vars apart W args.toList ds [] before) (hb : Below W.heap.size W W') {t : TypeId} (hres : f.resultTypes = #[t]) (ht : P.underlying t = some .bool) (hl : laidOutB P = true)
    (hr : ∀ t, t ∈ f.params.toList → P.readableRec t = true ∧ t < P.types.size) : s.post enc P f apart fresh handsOn again W args (.bool true) W' := by
  have hlt : ∀ p, p ∈ before → p.block < W.heap.size := hW.lt
  obtain ⟨p, q, h1, h2, he, hz, hn⟩ := hW
  have hW : DataW.Whole enc P f.params.toList s.vars apart W args.toList ds [] before := ⟨p, q, h1, h2, he, hz, hn⟩
  rw [hvars] at h2
  have hq : q = [] := h2
  subst hq
  have hp : before = p := by rw [he, List.append_nil]
  subst hp
  have hargs : ∀ sp' : Nat → Bool, (∀ x, x ∈ before → sp' x.block = true) → DataW.TrodAll enc P W' 0 sp' true f.params.toList args.toList ds before := fun sp' hs => trodAll_stays hl hb hr h1 hlt hs
  have hrr : ∀ (b : Nat) (sp : Nat → Bool) (hd : Bool), DataW.TrodAll enc P W' b sp hd f.resultTypes.toList ((Value.bool true).resultList f.resultTypes.size) [.lit (.bool true)] [] := fun b sp hd => by
    rw [hres]; exact ⟨[], [], shut_bool ht true, rfl, rfl⟩
  have e0 : s.fn H (ds ++ []) = s.fn H ds := by rw [List.append_nil]
  refine ⟨ds, [], before, [], before, [], hW, ?_, ?_, ?_, World.keptBut_mono (fun x hx => ⟨hx, .inr (.inl hx)⟩) (hb.frame (· ∈ before)), fun _ => ?_⟩
  · rw [e0, hsp.1]; exact hrr _ _ _
  · rw [e0, hsp.2.1]; exact hargs _ (fun x hx => by simpa using hlt x hx)
  · rw [e0, hsp.2.2, hvars]; rfl
  · refine ⟨ok_one hres rfl (okWide_bool_mk ht true), .lit (.bool true) :: ds, [], before, ⟨before, [], ?_, by rw [hvars]; rfl, by simp, ?_, ?_⟩, fun x hx _ => hx⟩
    · have := trodAll_append (hargs (fun _ => true) (fun _ _ => rfl)) (hrr 0 (fun _ => true) true)
      simpa using this
    · intro b off hx
      rw [hb.frozen (hlt _ hx)]
      exact hz b off hx
    · exact hn
end
end Ab
namespace Ab
open Go
variable {P : Program} {ro : Option Nat} {H0 : List AObj} {Q : Exit → ASt → Prop} {st : ASt} {dst : Option Tmp} {ty : TypeId} {pos : String} {after : Array Edge} {guard : Option (Nat × Bool)} {K : AV → List AObj → Prop}
theorem AOp_append_arrAt {t e sz by_ : Nat} {s x : Operand} (n : Nat) (hn : st.heap[n]? = some .dead) (zs : List Value) (ys : List AV) (tk : Tok) (hs : st.opd s = .sl .zero []) (hx : st.opd x = .sl tk ys)
    (ht : SliceT P t e) (hsz : SzOf P e sz) (hby : BytesOf P e by_) (hz : ZeroOf P e zs) (hz0 : zs.length = sz) (hpos : 0 < sz) (huy : Uni sz ys) (hcell : ∀ c, c ∈ flat ys → c.isCell = true) (hne : ys ≠ [])
    (hbound : ys.length * by_ ≤ 140737488355328) (h63 : ys.length ≤ 9223372036854775807)
    (k' : K (.arr n 0 ys.length) (st.heap.set n (.cells (flat ys)))) :
    AOp P ro ⟨dst, .call { callee := .builtin .append, args := #[s, x], argTypes := #[t, t] }, ty, pos, after, guard⟩ K st :=
  AOp_value (fun ρ => semAt_of (fun c => by simp) ro ρ) fun C a hg hH hsr => by
    have h1 := hsr.opd s
    have h2 := hsr.opd x
    rw [hs] at h1
    rw [hx] at h2
    obtain ⟨ad1, c1, e1, hc1, htok, _⟩ := sl_values h1
    obtain ⟨ad2, c2, e2, hc2, _, news, hnl, hnrel, hncell⟩ := sl_values h2
    obtain ⟨_, rfl⟩ := htok
    have hfy := flat_length huy
    have hm : 0 < ys.length := List.length_pos_iff.2 hne
    have hflne : flat ys ≠ [] := fun he => by rw [he] at hfy; have := Nat.mul_pos hm hpos; simp at hfy; omega
    obtain ⟨b2, o2, rfl, hnc2⟩ := hncell hflne
    obtain ⟨i, z, hi, i1, i2, i3, i4⟩ := info_of hsz hby hz
    have hnl' : news.length = ys.length * i.size := by rw [hnl, hfy, i1]
    obtain ⟨cap, hcap⟩ : ∃ cap, cap = grownCap C.w ys.length 0 e := ⟨_, rfl⟩
    have hcge : ys.length ≤ cap := by rw [hcap]; exact grownCap_ge _ _ _ _
    have hcle : cap ≤ maxLen := by rw [hcap]; exact grownCap_le_maxLen _ _ _ _ (by simp only [maxLen]; omega)
    obtain ⟨cur', hcur'⟩ : ∃ cur', cur' = news.toArray ++ Builtin.zeroCells z.cells (cap - ys.length) := ⟨_, rfl⟩
    have hrun : (Builtin.append_ #[t, t] ty #[.slice ad1 0 0, .slice (some ⟨b2, o2, none⟩) ys.length c2]).run P C.w = .ok (.slice (some ⟨C.w.heap.size, 0, none⟩) ys.length cap) (C.w.drew.alloc (.cells cur' e)) := by
      cases ad1 with
      | none =>
        have := run_append_nil (P := P) (ty := ty) C.w t e i z ht hi i3 ⟨b2, o2, none⟩ ys.length c2 news hnl' hnc2 hm (by omega) (by rw [i2]; omega)
        rw [this, hcur', hcap]
      | some a1 =>
        have := run_append_grow (P := P) (ty := ty) C.w t e i z ht hi i3 a1 0 0 [] (by simp) (fun j u hu => by simp at hu) ⟨b2, o2, none⟩ ys.length c2 news hnl' hnc2 (by omega) (by omega) (growslice_fits (by omega) (by rw [i2]; simpa using hbound))
        simp only [Nat.zero_add] at this
        rw [this, hcur', hcap]; simp
    have hzs : z.cells.size = sz := by rw [← hz0, ← i4]; simp
    have hcs' : cur'.size = cap * sz := by
      rw [hcur']; simp only [Array.size_append, List.size_toArray, size_zeroCells, hzs, hnl', i1, ← Nat.add_mul]
      congr 1; omega
    have hfit2 : ys.length * sz ≤ cur'.size := by rw [hcs']; exact Nat.mul_le_mul_right _ hcge
    have hnC : C.H[n]? = some .dead := by rw [hH]; exact hn
    have hnl := (List.getElem?_eq_some_iff.1 hnC).1
    obtain ⟨hg', hx'⟩ := step_atS 0 hg n hnC (.cells (flat ys)) (.cells cur' e) (C.w.drew.alloc (.cells cur' e)) rfl ⟨rfl, rfl, rfl, by first | exact Nat.le_refl _ | exact Nat.le_add_right _ _⟩ (by simp [AObj.kind]) rfl (fun hxx => by
      refine ⟨cur', e, ?_, by rw [hfy]; exact hfit2, ?_, fun j hj hj' => ?_⟩
      · simp only [if_true]; exact heap_alloc_new C.w.drew _
      · simp
      · have hgj : cur'[j]? = news[j]? := by
          rw [hcur', Array.getElem?_append_left (by simp; omega)]; simp
        rw [Array.getElem?_eq_getElem hj', List.getElem?_eq_getElem (by omega)] at hgj
        injection hgj with hgj
        rw [hgj]; exact ⟨(hnrel j hj (by omega)).ext hxx, hcell _ (by simp)⟩)
    refine ⟨_, .slice (some ⟨C.w.heap.size, 0, none⟩) ys.length cap, .arr n 0 ys.length, ?_, hg', hx', ?_, by rw [← hH] at k'; exact k'⟩
    · simp only [List.length_nil] at e1
      simp only [execOp, resolve, invoke, builtin, List.map_toArray, List.map_cons, List.map_nil, Sem.run_bind, Sem.run_pure, Result.andThen_ok, e1, e2, hrun]
    · have := VRel.arr (C := ⟨fun b => if b = C.w.heap.size then 0 else C.S b, fun k => if k = n then C.w.heap.size else C.μ k, C.H.set n (AObj.cells (flat ys)), C.w.drew.alloc (.cells cur' e)⟩) n 0 ys.length cap ⟨.cells (flat ys), by simp [hnl], rfl⟩ hcge
      simpa using this
theorem AOp_len_arr {x : Operand} {t : TypeId} (e : TypeId) (id off len : Nat) (hx : st.opd x = .arr id off len) (ht : SliceT P t e) (k : K (.int .i64 len) st.heap) :
    AOp P ro ⟨dst, .call { callee := .builtin .len, args := #[x], argTypes := #[t] }, ty, pos, after, guard⟩ K st :=
  AOp_pure _ (fun c => by simp) (fun C a _ _ hsr => by
    have hv := hsr.opd x
    rw [hx] at hv
    generalize hxx : a.eval x = xx at hv
    cases hv with
    | arr _ _ _ c hk hc =>
      have ht' : P.underlying t = some (.slice e) := ht
      exact ⟨_, by simp [execOp, resolve, invoke, builtin, hxx, Builtin.len_, run_underlying ht', goInt], .int .i64 _⟩) k
theorem AOp_indexAddr_arr {t : Nat} {x y : Operand} (e sz id off len : Nat) (kd : IntKind) (n : Int) (hx : st.opd x = .arr id off len) (hy : st.opd y = .int kd n) (ht : SliceT P t e) (hs : SzOf P e sz)
    (h0 : 0 ≤ n) (hlt : n.toNat < len) (k : K (.ptr id (off + n.toNat * sz)) st.heap) : AOp P ro ⟨dst, .indexAddr t x y, ty, pos, after, guard⟩ K st :=
  AOp_pure _ (fun c => by simp) (fun C a _ _ hsr => by
    have hv := hsr.opd x
    have hi := hsr.opd y
    rw [hx] at hv
    rw [hy] at hi
    generalize hxx : a.eval x = xx at hv
    cases hv with
    | arr _ _ _ c hk hc =>
      have hle : n < (len : Int) := by omega
      have hrun : (Instr.indexAt t (.slice (some ⟨C.μ id, off, none⟩) len c) (.int kd n)).run P C.w = .ok (.pointer (some ⟨C.μ id, off + n.toNat * sz, none⟩)) C.w := by
        have ht' : P.underlying t = some (.slice e) := ht
        simp [Instr.indexAt, run_underlying ht', asIntOf, h0, hle, hs.run, add_mk]
      exact ⟨_, by simp [execOp, hxx, hi.int_inv, hrun], .ptr _ _ hk⟩) k
inductive FrzOk (m : Nat) (vs : List AV) : List AV → List AV → Prop
  | nil : FrzOk m vs [] []
  | junk {v : AV} {l l' : List AV} (h : FrzOk m vs l l') : FrzOk m vs (v :: l) (.junk :: l')
  | same {v : AV} {l l' : List AV} (hv : Scoped m v) (h : FrzOk m vs l l') : FrzOk m vs (v :: l) (v :: l')
  | froz {o : Nat} {l l' : List AV} (h : FrzOk m vs l l') : FrzOk m vs (.ptr m o :: l) (.cptr (vs.drop o) :: l')
  | row {n : Nat} {l l' xs : List AV} (hxs : flat xs = vs) (hn : n = xs.length) (h : FrzOk m vs l l') : FrzOk m vs (.arr m 0 n :: l) (.sl .none xs :: l')
theorem FrzOk.length {m : Nat} {vs l l' : List AV} (h : FrzOk m vs l l') : l.length = l'.length := by
  induction h <;> simp_all
theorem FrzOk.rel {m : Nat} {vs l l' : List AV} (h : FrzOk m vs l l') {C C' : Ctx} (hscp : ∀ v x, Scoped m v → VRel C v x → VRel C' v x) (hfz : ∀ o x, VRel C (.ptr m o) x → VRel C' (.cptr (vs.drop o)) x)
    (hrw : ∀ n xs x, flat xs = vs → n = xs.length → VRel C (.arr m 0 n) x → VRel C' (.sl .none xs) x) :
    ∀ i (h1 : i < l.length) (h2 : i < l'.length) (x : Value), VRel C l[i] x → VRel C' l'[i] x := by
  induction h with
  | nil => intro i h1; simp at h1
  | junk h ih =>
    intro i h1 h2 x hx
    cases i with
    | zero => exact .junk x
    | succ i => exact ih i (by simpa using h1) (by simpa using h2) x (by simpa using hx)
  | same hv h ih =>
    intro i h1 h2 x hx
    cases i with
    | zero => exact hscp _ _ hv (by simpa using hx)
    | succ i => exact ih i (by simpa using h1) (by simpa using h2) x (by simpa using hx)
  | froz h ih =>
    intro i h1 h2 x hx
    cases i with
    | zero => exact hfz _ _ (by simpa using hx)
    | succ i => exact ih i (by simpa using h1) (by simpa using h2) x (by simpa using hx)
  | row hxs hn h ih =>
    intro i h1 h2 x hx
    cases i with
    | zero => exact hrw _ _ _ hxs hn (by simpa using hx)
    | succ i => exact ih i (by simpa using h1) (by simpa using h2) x (by simpa using hx)
theorem AW_freezeA {c : Code} (L : List AObj) (vs slots' : List AV) (hh : st.heap = L ++ [.cells vs]) (hm : OutOk H0 st.heap L.length) (hvs : ScopedL L.length vs) (hsl : FrzOk L.length vs st.slots slots')
    (h : AW P ro H0 c Q ⟨slots', L⟩) : AW P ro H0 c Q st := by
  intro C0 C a h0 hg0 hx hg hH hs
  have hlast : C.H[L.length]? = some (.cells vs) := by rw [hH, hh]; simp
  obtain ⟨c', e, g1, g2, g3, g4⟩ := hg.obj _ _ hlast
  have hgt : Good (C.take L.length) := Good.take hg0 hg (by rw [h0, hH]; exact hm)
  have hxt : Ext C0 (C.take L.length) := hx.take (by rw [h0]; exact hm.2.1)
  have hlt := hg.lt _ _ hlast (by simp [AObj.kind])
  have hHt : (C.take L.length).H = L := by show C.H.take L.length = L; rw [hH, hh]; simp
  have hno : ∀ (k : Nat) (o : AObj), (C.take L.length).H[k]? = some o → o.kind ≠ 6 → C.μ k ≠ C.μ L.length := fun k o hk ho heq => by
    rw [hHt] at hk
    have hkl := (List.getElem?_eq_some_iff.1 hk).1
    have hkC : C.H[k]? = some o := by rw [hH, hh, List.getElem?_append_left hkl]; exact hk
    have := hg.inj k L.length o _ hkC hlast ho (by simp [AObj.kind]) heq
    omega
  obtain ⟨hg2, he2⟩ := step_claim hgt (C.μ L.length) vs.length hlt (by show C.S (C.μ L.length) ≤ _; rw [g3]; exact Nat.zero_le _) hno rfl
  have hscp : ∀ v x, Scoped L.length v → VRel C v x → VRel { C.take L.length with S := fun x => if x = C.μ L.length then vs.length else (C.take L.length).S x } v x := fun v x hv hr => (hr.take hv).ext he2
  have hcl : ∀ j (hj : j < vs.length), C.w.cell? ⟨C.μ L.length, j, none⟩ = some (c'.getD j undef) ∧ VRel { C.take L.length with S := fun x => if x = C.μ L.length then vs.length else (C.take L.length).S x } vs[j] (c'.getD j undef) := fun j hj => by
    have hj2 : j < c'.size := by omega
    refine ⟨by simp [World.cell?, g1, hj2], ?_⟩
    have := (g4 j hj hj2).1
    simp only [Array.getD, hj2, dif_pos]
    exact hscp _ _ (ScopedL_iff.1 hvs _ (by simp)) this
  have hs' : SD C0 { C.take L.length with S := fun x => if x = C.μ L.length then vs.length else (C.take L.length).S x } ⟨slots', L⟩ a := by
    refine ⟨⟨by rw [hs.size, hsl.length], fun i h1 h2 => ?_⟩, (hs.defok.take).ext he2⟩
    refine hsl.rel hscp ?_ ?_ i (by rw [hsl.length]; exact h1) h1 _ (hs.slot i (by rw [hsl.length]; exact h1) h2)
    · intro o x hx'
      cases hx' with
      | ptr _ _ hk =>
        refine .cptr _ _ _ (fun j => c'.getD (o + j) undef) (fun j hj => ?_) (fun j hj => ?_)
        · have hj' : o + j < vs.length := by simp at hj; omega
          exact ⟨by show _ < if _ then _ else _; rw [if_pos rfl]; exact hj', (hcl _ hj').1⟩
        · have hj' : o + j < vs.length := by simp at hj; omega
          simp only [List.getElem_drop]; exact (hcl _ hj').2
    · intro n xs x hxs hn hx'
      cases hx' with
      | arr _ _ _ cc hk hcc =>
        subst hxs
        refine .sl .none xs _ n cc (fun j => c'.getD j undef) hn hcc (fun _ => ⟨_, _, rfl, fun j hj => ⟨by show _ < if _ then _ else _; rw [if_pos rfl]; omega, ?_⟩⟩) (fun j hj => (hcl j hj).2) trivial
        have := (hcl j hj).1
        show C.w.cell? _ = _
        simpa using this
  exact h C0 { C.take L.length with S := fun x => if x = C.μ L.length then vs.length else (C.take L.length).S x } a h0 hg0 (hxt.trans he2) hg2 hHt hs'
end Ab
namespace Ab
open Go
inductive TK where
  | bool
  | int (k : IntKind)
  | str
  | slice (e : Nat) (sz : Option Nat)
  | struct (fs : List (Nat × Nat × Bool))
  | array (n e : Nat) (sz : Option Nat)
  | map
  | other
structure TI where
  sz : Nat
  agg : Bool
  zs : Option (List AV)
  kd : TK
def aggD : TypeDesc → Bool
  | .struct _ => true
  | .array _ _ => true
  | _ => false
def elemSz (P : Program) (e : Nat) : Option Nat := (P.info? e).bind fun i => i.zero.bind fun z => if z.cells.toList.length = i.size then some i.size else none
def fInfo (P : Program) (f : Field) : Option (Nat × Nat × Bool) := match P.info? f.type, P.underlying f.type with
  | some i, some d => some (f.offset, i.size, aggD d)
  | _, _ => none
def tKind (P : Program) : TypeDesc → TK
  | .bool => .bool
  | .int k => .int k
  | .string => .str
  | .slice e => .slice e (elemSz P e)
  | .struct fs => match fs.toList.mapM (fInfo P) with
    | some l => .struct l
    | none => .other
  | .array n e => .array n e (elemSz P e)
  | .map _ _ => .map
  | _ => .other
def tInfo (P : Program) (t : Nat) : Option TI := match P.info? t, P.underlying t with
  | some i, some d => some ⟨i.size, aggD d, i.zero.map fun z => z.cells.toList.map ofVal, tKind P d⟩
  | _, _ => none
variable {P : Program}
theorem tI_inv {t : Nat} {i : TI} (h : tInfo P t = some i) : ∃ j d, P.info? t = some j ∧ P.underlying t = some d ∧ i = ⟨j.size, aggD d, j.zero.map fun z => z.cells.toList.map ofVal, tKind P d⟩ := by
  unfold tInfo at h
  split at h
  · rename_i j d h1 h2
    injection h with h
    exact ⟨j, d, h1, h2, h.symm⟩
  · cases h
theorem tI_sz {t : Nat} {i : TI} (h : tInfo P t = some i) : SzOf P t i.sz := by
  obtain ⟨j, d, h1, _, rfl⟩ := tI_inv h
  unfold SzOf; rw [h1]; rfl
theorem tI_agg {t : Nat} {i : TI} (h : tInfo P t = some i) : AggT P t i.agg := by
  obtain ⟨j, d, _, h2, rfl⟩ := tI_inv h
  unfold AggT; rw [h2]; cases d <;> rfl
theorem tI_zs {t : Nat} {i : TI} {zs : List AV} (h : tInfo P t = some i) (hz : i.zs = some zs) : ∃ l, ZeroOf P t l ∧ zs = l.map ofVal := by
  obtain ⟨j, d, h1, _, rfl⟩ := tI_inv h
  cases hj : j.zero with
  | none => simp [hj] at hz
  | some z =>
    simp only [hj, Option.map_some, Option.some.injEq] at hz
    exact ⟨z.cells.toList, by unfold ZeroOf; simp [h1, hj], hz.symm⟩
theorem tI_bool {t : Nat} {i : TI} (h : tInfo P t = some i) (hk : i.kd = .bool) : P.underlying t = some .bool := by
  obtain ⟨j, d, _, h2, rfl⟩ := tI_inv h
  rw [h2]; cases d <;> simp only [tKind] at hk <;> first | rfl | (cases hk; done) | (split at hk <;> cases hk)
theorem tI_str {t : Nat} {i : TI} (h : tInfo P t = some i) (hk : i.kd = .str) : P.underlying t = some .string := by
  obtain ⟨j, d, _, h2, rfl⟩ := tI_inv h
  rw [h2]; cases d <;> simp only [tKind] at hk <;> first | rfl | (cases hk; done) | (split at hk <;> cases hk)
theorem tI_int {t : Nat} {i : TI} {k : IntKind} (h : tInfo P t = some i) (hk : i.kd = .int k) : P.underlying t = some (.int k) := by
  obtain ⟨j, d, _, h2, rfl⟩ := tI_inv h
  rw [h2]; cases d <;> simp only [tKind] at hk <;> first | (injection hk with hk; rw [hk]; done) | (cases hk; done) | (split at hk <;> cases hk)
theorem tI_slice {t : Nat} {i : TI} {e : Nat} {s : Option Nat} (h : tInfo P t = some i) (hk : i.kd = .slice e s) : SliceT P t e ∧ s = elemSz P e := by
  obtain ⟨j, d, _, h2, rfl⟩ := tI_inv h
  unfold SliceT
  rw [h2]; cases d <;> simp only [tKind] at hk <;> first | (injection hk with h1 h2; subst h1; exact ⟨rfl, h2.symm⟩) | (cases hk; done) | (split at hk <;> cases hk)
theorem tI_array {t : Nat} {i : TI} {n e : Nat} {s : Option Nat} (h : tInfo P t = some i) (hk : i.kd = .array n e s) : ArrT P t n e ∧ s = elemSz P e := by
  obtain ⟨j, d, _, h2, rfl⟩ := tI_inv h
  unfold ArrT
  rw [h2]; cases d <;> simp only [tKind] at hk <;> first | (injection hk with h0 h1 h2; subst h0; subst h1; exact ⟨rfl, h2.symm⟩) | (cases hk; done) | (split at hk <;> cases hk)
theorem elemSz_spec {e sz : Nat} (h : elemSz P e = some sz) : SzOf P e sz ∧ ∃ zs, ZeroOf P e zs ∧ zs.length = sz := by
  unfold elemSz at h
  cases hi : P.info? e with
  | none => simp [hi] at h
  | some i =>
    cases hz : i.zero with
    | none => simp [hi, hz] at h
    | some z =>
      simp only [hi, hz, Option.bind_some] at h
      split at h
      · rename_i hl
        injection h with h; subst h
        exact ⟨by unfold SzOf; rw [hi]; rfl, z.cells.toList, by unfold ZeroOf; simp [hi, hz], hl⟩
      · cases h
theorem tI_struct {t : Nat} {i : TI} {l : List (Nat × Nat × Bool)} (h : tInfo P t = some i) (hk : i.kd = .struct l) : ∃ fs, P.underlying t = some (.struct fs) ∧ fs.toList.mapM (fInfo P) = some l := by
  obtain ⟨j, d, _, h2, rfl⟩ := tI_inv h
  rw [h2]
  cases d <;> simp only [tKind] at hk <;> first | (cases hk; done) | skip
  rename_i fs
  split at hk
  · rename_i l' hl
    injection hk with hk; subst hk
    exact ⟨fs, rfl, hl⟩
  · cases hk
theorem fInfo_spec {f : Field} {q : Nat × Nat × Bool} (h : fInfo P f = some q) : ∃ j d, P.info? f.type = some j ∧ P.underlying f.type = some d ∧ q = (f.offset, j.size, aggD d) := by
  unfold fInfo at h
  split at h
  · rename_i j d h1 h2; injection h with h; exact ⟨j, d, h1, h2, h.symm⟩
  · cases h
theorem tI_field {t : Nat} {i : TI} {l : List (Nat × Nat × Bool)} {k off sz : Nat} {ag : Bool} (h : tInfo P t = some i) (hk : i.kd = .struct l) (hl : l[k]? = some (off, sz, ag)) : FieldA P t k off sz ag := by
  obtain ⟨fs, hu, hm⟩ := tI_struct h hk
  obtain ⟨h1, h2⟩ := mapM_get hm
  obtain ⟨hlt, hlk⟩ := List.getElem?_eq_some_iff.1 hl
  have hf := h2 k (by omega) hlt
  rw [hlk] at hf
  obtain ⟨j, d, hi, hd, hq⟩ := fInfo_spec hf
  injection hq with q1 q2
  injection q2 with q2 q3
  have hg : fs[k]? = some fs.toList[k] := by
    have : k < fs.size := by simpa using (show k < fs.toList.length by omega)
    rw [Array.getElem?_eq_getElem this]; simp
  refine ⟨?_, ?_⟩
  · unfold FieldT; rw [hu]; simp only [hg, Option.bind_some, hi, Option.map_some, q1, q2]
  · rw [hu]; simp only [hg, Option.bind_some, hd, q3]; cases d <;> rfl
theorem mapM_comp {α β γ : Type} {f : α → Option β} {g : α → Option γ} {u : β → γ} (h : ∀ a b, f a = some b → g a = some (u b)) : ∀ {l : List α} {r : List β}, l.mapM f = some r → l.mapM g = some (r.map u) := by
  intro l r hm
  obtain ⟨h1, h2⟩ := mapM_get hm
  exact mapM_mk (by simpa using h1) (fun i hi hi' => by simpa using h _ _ (h2 i hi (by simpa using hi')))
theorem tI_structT {t : Nat} {i : TI} {l : List (Nat × Nat × Bool)} (h : tInfo P t = some i) (hk : i.kd = .struct l) : StructT P t (l.map fun q => (q.1, q.2.1)) := by
  obtain ⟨fs, hu, hm⟩ := tI_struct h hk
  unfold StructT
  rw [hu]
  exact mapM_comp (fun a b hb => by obtain ⟨j, d, hi, _, rfl⟩ := fInfo_spec hb; simp [hi]) hm
def leL : Nat → List AV → Prop
  | 0, _ => True
  | _ + 1, [] => False
  | n + 1, _ :: l => leL n l
theorem leL_le : ∀ {n : Nat} {l : List AV}, leL n l → n ≤ l.length
  | 0, _, _ => Nat.zero_le _
  | _ + 1, [], h => h.elim
  | n + 1, _ :: l, h => Nat.succ_le_succ (leL_le (n := n) (l := l) h)
def lenIs : List AV → Nat → Prop
  | [], 0 => True
  | _ :: l, n + 1 => lenIs l n
  | _, _ => False
theorem lenIs_eq : ∀ {l : List AV} {n : Nat}, lenIs l n → l.length = n
  | [], 0, _ => rfl
  | _ :: l, n + 1, h => by rw [List.length_cons, lenIs_eq (l := l) (n := n) h]
  | [], _ + 1, h => h.elim
  | _ :: _, 0, h => h.elim
def okC : AV → Prop
  | .junk => False
  | .agg _ => False
  | .tup _ => False
  | .lit v => v.oneCell' = true
  | .bool _ => True
  | .int _ _ => True
  | .str _ => True
  | .sl _ _ => True
  | .arr _ _ _ => True
  | .gr _ _ => True
  | .gptr _ _ _ => True
  | .ptr _ _ => True
  | .cptr _ => True
  | .map _ => True
  | .iter _ => True
  | .fn _ _ => True
  | .yld _ => True
theorem okC_isCell {v : AV} (h : okC v) : v.isCell = true := by cases v <;> first | rfl | exact h | exact h.elim
theorem okC_gSl (k : Nat) (xs : List AV) : okC (gSl k xs) = True := by cases xs <;> rfl
def okCells : List AV → Prop
  | [] => True
  | c :: cs => okC c ∧ okCells cs
theorem okCells_all : ∀ {l : List AV}, okCells l → ∀ c, c ∈ l → c.isCell = true
  | _ :: _, h, _, .head _ => okC_isCell h.1
  | _ :: l, h, c, .tail _ hc => okCells_all (l := l) h.2 c hc
def okV (v : AV) : Prop := okCells v.cells
theorem okV_spec {v : AV} (h : okV v) : (v.isCell = true ∨ ∃ cs, v = .agg cs) ∧ ∀ c, c ∈ v.cells → c.isCell = true := by
  refine ⟨?_, okCells_all h⟩
  cases v with
  | agg cs => exact .inr ⟨cs, rfl⟩
  | _ => exact .inl (okC_isCell (show okC _ from (show okCells [_] from h).1))
theorem okV_or {v : AV} (h : okV v) : (v.isCell || v.isAgg) = true := by
  rcases (okV_spec h).1 with h | ⟨cs, rfl⟩
  · simp [h]
  · simp [AV.isAgg]
def box {α : Sort _} (a : α) : α := a
section
variable {ro : Option Nat} {H0 : List AObj} {Q : Exit → ASt → Prop} {st : ASt} {dst : Option Tmp} {ty : TypeId} {pos : String} {after : Array Edge} {guard : Option (Nat × Bool)} {K : AV → List AObj → Prop}
def loadG (agg : Bool) (cs : List AV) (h : List AObj) (K : AV → List AObj → Prop) : Prop := match agg, cs with
  | true, cs => K (.agg cs) h
  | false, [v] => K v h
  | false, _ => False
def loadH (i : TI) (o : Nat) (c : Option AObj) (h : List AObj) (K : AV → List AObj → Prop) : Prop := match c with
  | some (.cells vs) => leL (o + i.sz) vs ∧ loadG i.agg ((vs.drop o).take i.sz) h K
  | _ => False
def loadGr (i : TI) (n o : Nat) (c : Option AObj) (h : List AObj) (K : AV → List AObj → Prop) : Prop := match c with
  | some (.grow _ _ vs) => n = vs.length ∧ o + i.sz ≤ vs.length ∧ loadG i.agg ((vs.drop o).take i.sz) h K
  | _ => False
def loadV (i : Option TI) (a : AV) (h : List AObj) (K : AV → List AObj → Prop) : Prop := match i, a with
  | some i, .ptr id o => loadH i o h[id]? h K
  | some i, .cptr cs => leL i.sz cs ∧ loadG i.agg (cs.take i.sz) h K
  | some i, .gptr id n o => loadGr i n o h[id]? h K
  | _, _ => False
theorem take_one {vs : List AV} {o n : Nat} {v : AV} (h : (vs.drop o).take n = [v]) : 0 < n ∧ vs[o]? = some v := by
  cases n with
  | zero => simp at h
  | succ n =>
    refine ⟨Nat.succ_pos _, ?_⟩
    cases hd : vs.drop o with
    | nil => rw [hd] at h; simp at h
    | cons a l =>
      rw [hd, List.take_succ_cons] at h
      injection h with h1 h2
      subst h1
      have := congrArg (fun l => l[0]?) hd
      simpa using this
theorem gptr_val {C : Ctx} {id o : Nat} {e : TypeId} {sz : Nat} {vs : List AV} {x : Value} (hg : Good C) (hv : VRel C (.gptr id vs.length o) x) (hh : C.H[id]? = some (.grow e sz vs)) :
    ∃ c, x = .pointer (some ⟨C.μ id, o, none⟩) ∧ C.w.heap[C.μ id]? = some (.cells c e (0, 0)) ∧ vs.length ≤ c.size ∧ ∀ i (h : i < vs.length) (h' : i < c.size), VRel C vs[i] c[i] ∧ vs[i].isCell = true := by
  cases hv with
  | gptr _ _ _ a hgp =>
    obtain ⟨e', sz', vs', hk, _, hr⟩ := hgp
    rw [hh] at hk
    injection hk with hk; injection hk with q1 q2 q3
    subst q3
    obtain ⟨c, g1, g2, _, g4⟩ := hg.obj _ _ hh
    exact ⟨c, by rw [hr rfl], g1, g2, g4⟩
theorem AOp_load_gptr {t : Nat} {x : Operand} (n id o : Nat) (e sz : Nat) (vs : List AV) (hx : st.opd x = .gptr id vs.length o) (hh : st.heap[id]? = some (.grow e sz vs)) (hs : SzOf P t n) (ha : AggT P t true) (hle : o + n ≤ vs.length)
    (k : K (.agg ((vs.drop o).take n)) st.heap) : AOp P ro ⟨dst, .load t x, ty, pos, after, guard⟩ K st :=
  AOp_pure _ (fun c => by simp) (fun C a hg hH hsr => by
    have hv := hsr.opd x
    rw [hx] at hv
    obtain ⟨c, hxx, h1, h2, h4⟩ := gptr_val hg hv (by rw [hH]; exact hh)
    obtain ⟨f, hf⟩ : ∃ f : Nat → Value, ∀ j (h : o + j < c.size), f j = c[o + j] := ⟨fun j => c.getD (o + j) undef, fun j h => by simp [h]⟩
    have hl := loadVar_run hs ha C.w (C.μ id) o f (fun j hj => by
      have : o + j < c.size := by omega
      simp [World.cell?, h1, this, hf j this]) (by simp)
    refine ⟨_, by simp [execOp, hxx, Instr.loadAt, Instr.sureAddr, hl]; rfl, ?_⟩
    have hlen : ((vs.drop o).take n).length = n := by simp; omega
    have := VRel.aggRange (C := C) (cs := (vs.drop o).take n) (f := f) (fun j hj => by
      have hj' : j < n := by omega
      have hq : o + j < c.size := by omega
      have := (h4 (o + j) (by omega) hq).1
      rw [hf j hq]
      simpa using this)
    rwa [hlen] at this) k
theorem AOp_load1_gptr {t : Nat} {x : Operand} (n id o : Nat) (e sz : Nat) (vs : List AV) (v : AV) (hx : st.opd x = .gptr id vs.length o) (hh : st.heap[id]? = some (.grow e sz vs)) (hs : SzOf P t n) (ha : AggT P t false) (hn : 0 < n) (hle : o + n ≤ vs.length) (hv0 : vs[o]? = some v)
    (k : K v st.heap) : AOp P ro ⟨dst, .load t x, ty, pos, after, guard⟩ K st :=
  AOp_pure _ (fun c => by simp) (fun C a hg hH hsr => by
    have hv := hsr.opd x
    rw [hx] at hv
    obtain ⟨c, hxx, h1, h2, h4⟩ := gptr_val hg hv (by rw [hH]; exact hh)
    obtain ⟨f, hf⟩ : ∃ f : Nat → Value, ∀ j (h : o + j < c.size), f j = c[o + j] := ⟨fun j => c.getD (o + j) undef, fun j h => by simp [h]⟩
    have hl := loadVar_run hs ha C.w (C.μ id) o f (fun j hj => by
      have : o + j < c.size := by omega
      simp [World.cell?, h1, this, hf j this]) (fun _ => hn)
    have hq : o < c.size := by omega
    refine ⟨f 0, by simp [execOp, hxx, Instr.loadAt, Instr.sureAddr, hl], ?_⟩
    have h5 := (h4 o (by omega) hq).1
    have : vs[o] = v := by have := List.getElem?_eq_some_iff.1 hv0; exact this.2
    rw [this] at h5
    rw [hf 0 (by omega)]
    exact h5) k
theorem loadV_sound {t : Nat} {x : Operand} (h : loadV (tInfo P t) (st.opd x) st.heap K) : AOp P ro ⟨dst, .load t x, ty, pos, after, guard⟩ K st := by
  cases hi : tInfo P t with
  | none => rw [hi] at h; cases hx : st.opd x <;> rw [hx] at h <;> exact h.elim
  | some i =>
    rw [hi] at h
    have hs := tI_sz hi
    have ha := tI_agg hi
    cases hx : st.opd x with
    | ptr id o =>
      rw [hx] at h
      simp only [loadV] at h
      unfold loadH at h
      split at h
      · rename_i vs hh
        obtain ⟨h1, h2⟩ := h
        unfold loadG at h2
        split at h2
        · rename_i hag
          rw [hag] at ha
          exact AOp_load_ptr _ _ _ _ hx hh hs ha (leL_le h1) h2
        · rename_i v hag he
          rw [hag] at ha
          obtain ⟨g1, g2⟩ := take_one he
          exact AOp_load1_ptr _ _ _ _ _ hx hh hs ha g1 (leL_le h1) g2 h2
        · exact h2.elim
      · exact h.elim
    | cptr cs =>
      rw [hx] at h
      simp only [loadV] at h
      obtain ⟨h1, h2⟩ := h
      unfold loadG at h2
      split at h2
      · rename_i hag
        rw [hag] at ha
        exact AOp_load_cptr _ _ hx hs ha (leL_le h1) h2
      · rename_i v hag he
        rw [hag] at ha
        have hl := leL_le h1
        have hlen := congrArg List.length he
        rw [List.length_take, List.length_singleton] at hlen
        have h1s : i.sz = 1 := by omega
        cases cs with
        | nil => simp at he
        | cons a l =>
          rw [h1s] at he
          simp only [List.take_succ_cons, List.take_zero, List.cons.injEq, and_true] at he
          subst he
          exact AOp_load1_cptr _ _ _ hx hs ha h1s h2
      · exact h2.elim
    | gptr id n o =>
      rw [hx] at h
      simp only [loadV] at h
      unfold loadGr at h
      split at h
      · rename_i e sz vs hh
        obtain ⟨h0, h1, h2⟩ := h
        subst h0
        unfold loadG at h2
        split at h2
        · rename_i hag
          rw [hag] at ha
          exact AOp_load_gptr _ _ _ _ _ _ hx hh hs ha h1 h2
        · rename_i v hag he
          rw [hag] at ha
          obtain ⟨g1, g2⟩ := take_one he
          exact AOp_load1_gptr _ _ _ _ _ _ _ hx hh hs ha g1 h1 g2 h2
        · exact h2.elim
      · exact h.elim
    | _ => rw [hx] at h; exact h.elim
theorem step_gr_in {C : Ctx} (hg : Good C) (k : Nat) {e : TypeId} {sz : Nat} {vs vs' : List AV} {cur cur' : Array Value} {w' : World} (hk : C.H[k]? = some (.grow e sz vs)) (hb : C.w.heap[C.μ k]? = some (.cells cur e (0, 0)))
    (hw : w'.heap = C.w.heap.setIfInBounds (C.μ k) (.cells cur' e (0, 0))) (so : SameOut C.w w') (hsz : cur'.size = cur.size) (hlen : vs.length ≤ vs'.length)
    {C' : Ctx} (hC : C' = ⟨C.S, C.μ, C.H.set k (.grow e sz vs'), w'⟩) (hor : Ext C C' → ORel C' k (.grow e sz vs')) : Good C' ∧ Ext C C' := by
  subst hC
  have hS : C.S (C.μ k) = 0 := by obtain ⟨_, _, _, h, _⟩ := hg.obj k _ hk; exact h
  have hlt := hg.lt k _ hk (by simp [AObj.kind])
  have hkl : k < C.H.length := (List.getElem?_eq_some_iff.1 hk).1
  have hheap : ∀ b, b ≠ C.μ k → w'.heap[b]? = C.w.heap[b]? := fun b hb => by rw [hw, Array.getElem?_setIfInBounds_ne (Ne.symm hb)]
  have hself : w'.heap[C.μ k]? = some (.cells cur' e (0, 0)) := by rw [hw]; simp [hlt]
  have hother : ∀ j (p : AObj), j ≠ k → C.H[j]? = some p → p.kind ≠ 6 → C.μ j ≠ C.μ k := fun j p hj hp hd ee => hj (hg.inj j k p _ hp hk hd (by simp [AObj.kind]) ee)
  have hset : ∀ j, j ≠ k → (C.H.set k (.grow e sz vs'))[j]? = C.H[j]? := fun j hj => by rw [List.getElem?_set, if_neg (Ne.symm hj)]
  have hsame : (C.H.set k (.grow e sz vs'))[k]? = some (.grow e sz vs') := by rw [List.getElem?_set, if_pos rfl]; simp [hkl]
  have he : Ext C ⟨C.S, C.μ, C.H.set k (.grow e sz vs'), w'⟩ := by
    refine ⟨so.os, so.tape, so.output, so.drawn, by show _ ≤ w'.heap.size; rw [hw]; simp, fun _ => Nat.le_refl _, ?_, ?_, ?_, ?_, fun _ _ _ _ _ => rfl, ?_, ?_, ?_⟩
    · intro b q hq
      refine cell_eq (hheap b ?_)
      intro ee; subst ee; rw [hS] at hq; omega
    · intro b hb hno; exact hheap b (fun ee => hno k _ hk (by simp [AObj.kind]) ee.symm)
    · intro j p hj hd
      by_cases ee : j = k
      · exact .inr ⟨k, _, hk, by simp [AObj.kind], by rw [ee]⟩
      · exact .inr ⟨j, p, by rw [← hset j ee]; exact hj, hd, rfl⟩
    · intro j p hj
      by_cases ee : j = k
      · rw [ee] at hj ⊢; rw [hk] at hj; injection hj with hj; exact ⟨_, hsame, fun _ => by rw [← hj]; rfl⟩
      · exact ⟨p, by show (C.H.set k _)[j]? = _; rw [hset j ee]; exact hj, fun _ => rfl⟩
    · intro j e1 sz1 len1 hj
      have hne : j ≠ k := fun ee => by rw [ee, hk] at hj; cases hj
      exact ⟨len1, by show (C.H.set k _)[j]? = _; rw [hset j hne]; exact hj, Nat.le_refl _, fun _ => ⟨rfl, fun cur0 hc => ⟨cur0, (hheap _ (hother j _ hne hj (by simp [AObj.kind]))).trans hc, rfl⟩⟩⟩
    · intro j ver es hj
      have hne : j ≠ k := fun ee => by rw [ee, hk] at hj; cases hj
      exact ⟨ver, es, by show (C.H.set k _)[j]? = _; rw [hset j hne]; exact hj, Nat.le_refl _, fun _ => ⟨rfl, hheap _ (hother j _ hne hj (by simp [AObj.kind]))⟩⟩
    · intro j e1 sz1 vs1 hj
      by_cases ee : j = k
      · rw [ee] at hj ⊢; rw [hk] at hj; injection hj with hj; injection hj with h1 h2 h3
        subst h1 h2 h3
        refine ⟨vs', hsame, hlen, fun _ => ⟨rfl, fun cur0 hc => ⟨cur', hself, ?_⟩⟩⟩
        rw [hb] at hc; injection hc with hc; injection hc with hc _ _; rw [← hc]; exact hsz
      · exact ⟨vs1, by show (C.H.set k _)[j]? = _; rw [hset j ee]; exact hj, Nat.le_refl _, fun _ => ⟨rfl, fun cur0 hc => ⟨cur0, (hheap _ (hother j _ ee hj (by simp [AObj.kind]))).trans hc, rfl⟩⟩⟩
  refine ⟨⟨?_, ?_, ?_, ?_, hg.tab.ext he⟩, he⟩
  · intro j p hj
    by_cases ee : j = k
    · subst ee; rw [hsame] at hj; injection hj with hj; rw [← hj]; exact hor he
    · rw [hset j ee] at hj
      by_cases hd : p.kind = 6
      · cases p <;> first | trivial | (simp [AObj.kind] at hd)
      · exact ORel.ext he rfl (hheap _ (hother j p ee hj hd)) rfl (hg.obj j p hj)
  · intro j p hj hd
    show C.μ j < w'.heap.size
    rw [hw, Array.size_setIfInBounds]
    by_cases ee : j = k
    · rw [ee]; exact hlt
    · rw [hset j ee] at hj; exact hg.lt j p hj hd
  · intro i j p q hi hj hd1 hd2 hmm
    have l : ∀ (i : Nat) (p : AObj), (C.H.set k (.grow e sz vs'))[i]? = some p → p.kind ≠ 6 → ∃ p' : AObj, C.H[i]? = some p' ∧ p'.kind ≠ 6 := fun i p hi hd => by
      by_cases h : i = k
      · exact ⟨_, by rw [h]; exact hk, by simp [AObj.kind]⟩
      · exact ⟨p, by rw [← hset i h]; exact hi, hd⟩
    obtain ⟨p', a1, a2⟩ := l i p hi hd1
    obtain ⟨q', b1, b2⟩ := l j q hj hd2
    exact hg.inj i j p' q' a1 b1 a2 b2 hmm
  · intro b hb'
    exact hg.fresh b (by have h : w'.heap.size ≤ b := hb'; rw [hw, Array.size_setIfInBounds] at h; exact h)
theorem AOp_store_gptr {t : TypeId} {x y : Operand} (id o : Nat) (e : TypeId) (sz : Nat) (vs : List AV) (v : AV) (cs : List AV) (hx : st.opd x = .gptr id vs.length o) (hh : st.heap[id]? = some (.grow e sz vs)) (hy : st.opd y = v) (hcs : v.cells = cs)
    (hv : v.isCell = true ∨ ∃ cs, v = .agg cs) (hall : ∀ c, c ∈ cs → c.isCell = true) (hsz : SzOf P t cs.length) (hle : o + cs.length ≤ vs.length)
    (k : K (.lit undef) (st.heap.set id (.grow e sz (splice vs o cs)))) : AOp P ro ⟨dst, .store t x y, ty, pos, after, guard⟩ K st :=
  AOp_skipv (fun ρ => semAt_of (fun c => by simp) ro ρ) fun C a hg hH hs => by
    have h1 := hs.opd x
    have h2 := hs.opd y
    rw [hx] at h1
    rw [hy] at h2
    obtain ⟨hsz2, hrel⟩ := h2.cells hv
    rw [hcs] at hsz2
    have hrel' : ∀ i (h1 : i < cs.length) (h2 : i < (a.eval y).cells.size), VRel C cs[i] (a.eval y).cells[i] := by subst hcs; exact hrel
    generalize hyy : (a.eval y).cells = yc at hsz2 hrel'
    have hhC : C.H[id]? = some (.grow e sz vs) := by rw [hH]; exact hh
    obtain ⟨c, hxx, g1, g2, g4⟩ := gptr_val hg h1 hhC
    have g3 : C.S (C.μ id) = 0 := by obtain ⟨_, _, _, h, _⟩ := hg.obj id _ hhC; exact h
    · have hlt := hg.lt id _ hhC (by simp [AObj.kind])
      have hone : ∀ u, u ∈ yc.toList → u.oneCell' = true := fun u hu => by
        obtain ⟨i, hi, rfl⟩ := List.getElem_of_mem hu
        have hi' : i < yc.size := by simpa using hi
        have hi2 : i < cs.length := by omega
        have := hrel' i hi2 hi'
        simpa using this.oneCell (hall _ (by simp))
      have hst := run_storeCells_at P (C.μ id) o e yc.toList 0 c C.w g1 (by simp; omega) hone
      simp only [Nat.add_zero] at hst
      have hyl : yc.toList.length = cs.length := by simp; omega
      obtain ⟨c', hc'⟩ : ∃ c', c' = (splice c.toList o yc.toList).toArray := ⟨_, rfl⟩
      have hst : (storeCells ⟨C.μ id, o, none⟩ yc.toList).run P C.w = .ok () (C.w.setRow (C.μ id) c') := by rw [hc']; exact hst
      have hc'sz : c'.size = c.size := by rw [hc']; simp only [List.size_toArray]; rw [splice_length (by simp; omega)]; simp
      obtain ⟨hg', he⟩ := step_gr_in hg id (vs' := splice vs o cs) hhC g1 (setRow_heap_eq g1) ⟨rfl, rfl, rfl, by first | exact Nat.le_refl _ | exact Nat.le_add_right _ _⟩ hc'sz (by rw [splice_length hle]; exact Nat.le_refl _) rfl (fun he => by
          refine ⟨c', ?_, ?_, g3, ?_⟩
          · show (C.w.setRow (C.μ id) c').heap[C.μ id]? = _
            rw [setRow_heap_eq g1]; simp [hlt]
          · rw [hc'sz, splice_length hle]; exact g2
          · intro i hi hi'
            have hi0 : i < vs.length := by rw [← splice_length hle]; exact hi
            have e1 := splice_get hle i
            rw [List.getElem?_eq_getElem hi] at e1
            have e2 : c'[i]? = (splice c.toList o yc.toList)[i]? := by rw [hc']; simp
            rw [splice_get (by simp; omega) i, Array.getElem?_eq_getElem hi', hyl] at e2
            have hic : i < c.size := by omega
            rcases Nat.lt_or_ge i o with h | h
            · rw [if_pos h, List.getElem?_eq_getElem hi0] at e1
              rw [if_pos h] at e2
              simp [hic] at e1 e2
              rw [e1, e2]; exact ⟨(g4 i hi0 (by omega)).1.ext he, (g4 i hi0 (by omega)).2⟩
            · rw [if_neg (by omega)] at e1 e2
              rcases Nat.lt_or_ge i (o + cs.length) with h' | h'
              · have h3 : i - o < cs.length := by omega
                have h4 : i - o < yc.size := by omega
                rw [if_pos h', List.getElem?_eq_getElem h3] at e1
                rw [if_pos h'] at e2
                simp [h4] at e1 e2
                rw [e1, e2]; exact ⟨(hrel' (i - o) h3 h4).ext he, hall _ (by simp)⟩
              · rw [if_neg (by omega), List.getElem?_eq_getElem hi0] at e1
                rw [if_neg (by omega)] at e2
                simp [hic] at e1 e2
                rw [e1, e2]; exact ⟨(g4 i hi0 (by omega)).1.ext he, (g4 i hi0 (by omega)).2⟩)
      refine ⟨_, ?_, hg', he, ?_⟩
      · have hsz3 : yc.size = cs.length := hsz2
        simp [execOp, hxx, Instr.storeAt, Instr.sureAddr, storeVar, hsz.run, hyy, hsz3, hst]
      · rw [← hH] at k; exact k
def storeGr (i : TI) (id n o : Nat) (v : AV) (c : Option AObj) (h : List AObj) (K : AV → List AObj → Prop) : Prop := match c with
  | some (.grow e sz vs) => n = vs.length ∧ okV v ∧ lenIs v.cells i.sz ∧ o + i.sz ≤ vs.length ∧ K (.lit undef) (h.set id (.grow e sz (splice vs o v.cells)))
  | _ => False
def storeH (i : TI) (id o : Nat) (v : AV) (c : Option AObj) (h : List AObj) (K : AV → List AObj → Prop) : Prop := match c with
  | some (.cells vs) => okV v ∧ lenIs v.cells i.sz ∧ leL (o + i.sz) vs ∧ K (.lit undef) (h.set id (.cells (splice vs o v.cells)))
  | _ => False
def storeV (i : Option TI) (a v : AV) (h : List AObj) (K : AV → List AObj → Prop) : Prop := match i, a with
  | some i, .ptr id o => storeH i id o v h[id]? h K
  | some i, .gptr id n o => storeGr i id n o v h[id]? h K
  | _, _ => False
theorem storeV_sound {t : Nat} {x y : Operand} (h : storeV (tInfo P t) (st.opd x) (st.opd y) st.heap K) : AOp P ro ⟨dst, .store t x y, ty, pos, after, guard⟩ K st := by
  cases hi : tInfo P t with
  | none => rw [hi] at h; cases hx : st.opd x <;> rw [hx] at h <;> exact h.elim
  | some i =>
    rw [hi] at h
    cases hx : st.opd x with
    | ptr id o =>
      rw [hx] at h
      simp only [storeV] at h
      unfold storeH at h
      split at h
      · rename_i vs hh
        obtain ⟨h1, h2, h3, h4⟩ := h
        have hl := lenIs_eq h2
        obtain ⟨g1, g2⟩ := okV_spec h1
        exact AOp_store _ _ _ _ _ hx hh rfl rfl g1 g2 (by rw [hl]; exact tI_sz hi) (by rw [hl]; exact leL_le h3) h4
      · exact h.elim
    | gptr id n o =>
      rw [hx] at h
      simp only [storeV] at h
      unfold storeGr at h
      split at h
      · rename_i e sz vs hh
        obtain ⟨h0, h1, h2, h3, h4⟩ := h
        subst h0
        have hl := lenIs_eq h2
        obtain ⟨g1, g2⟩ := okV_spec h1
        exact AOp_store_gptr _ _ _ _ _ _ _ hx hh rfl rfl g1 g2 (by rw [hl]; exact tI_sz hi) (by rw [hl]; exact h3) h4
      · exact h.elim
    | _ => rw [hx] at h; exact h.elim
def faddrGr (id n o off : Nat) (c : Option AObj) (h : List AObj) (K : AV → List AObj → Prop) : Prop := match c with
  | some (.grow _ _ vs) => n = vs.length ∧ K (.gptr id vs.length (o + off)) h
  | _ => False
theorem AOp_fieldAddr_gptr {t i : Nat} {x : Operand} (off sz id o : Nat) (e s : Nat) (vs : List AV) (hx : st.opd x = .gptr id vs.length o) (hh : st.heap[id]? = some (.grow e s vs)) (hf : FieldT P t i off sz) (hsz : sz ≠ 0)
    (k : K (.gptr id vs.length (o + off)) st.heap) : AOp P ro ⟨dst, .fieldAddr t x i, ty, pos, after, guard⟩ K st :=
  AOp_pure _ (fun c => by simp) (fun C a hg hH hsr => by
    have hv := hsr.opd x
    rw [hx] at hv
    obtain ⟨c, hxx, hc, hcs, hrel⟩ := gptr_val hg hv (by rw [hH]; exact hh)
    refine ⟨.pointer (some ⟨C.μ id, o + off, none⟩), by simp [execOp, hxx, fieldAt_run hf hsz], ?_⟩
    exact .gptr _ _ _ _ ⟨e, s, vs, by rw [hH]; exact hh, Nat.le_refl _, fun _ => rfl⟩) k
def faddrF (q : Option (Nat × Nat × Bool)) (a : AV) (h : List AObj) (K : AV → List AObj → Prop) : Prop := match q, a with
  | some (off, sz + 1, _), .ptr id o => K (.ptr id (o + off)) h
  | some (off, sz + 1, _), .cptr cs => leL off cs ∧ K (.cptr (cs.drop off)) h
  | some (off, sz + 1, _), .gptr id n o => faddrGr id n o off h[id]? h K
  | _, _ => False
def fieldF (q : Option (Nat × Nat × Bool)) (a : AV) (h : List AObj) (K : AV → List AObj → Prop) : Prop := match q, a with
  | some (off, sz, ag), .agg cs => leL (off + sz) cs ∧ loadG ag ((cs.drop off).take sz) h K
  | _, _ => False
def nthF (i : Option TI) (k : Nat) : Option (Nat × Nat × Bool) := match i with
  | some ⟨_, _, _, .struct fs⟩ => fs[k]?
  | _ => none
theorem nthF_spec {t k : Nat} {q : Nat × Nat × Bool} (h : nthF (tInfo P t) k = some q) : FieldA P t k q.1 q.2.1 q.2.2 := by
  unfold nthF at h
  split at h
  · rename_i fs hi
    obtain ⟨off, sz, ag⟩ := q
    exact tI_field hi rfl h
  · cases h
theorem faddrF_sound {t k : Nat} {x : Operand} (h : faddrF (nthF (tInfo P t) k) (st.opd x) st.heap K) : AOp P ro ⟨dst, .fieldAddr t x k, ty, pos, after, guard⟩ K st := by
  unfold faddrF at h
  split at h
  · rename_i off sz ag id o hq hx
    exact AOp_fieldAddr_ptr _ _ _ _ hx (nthF_spec hq).1 (Nat.succ_ne_zero _) h
  · rename_i off sz ag cs hq hx
    exact AOp_fieldAddr_cptr _ _ _ hx (nthF_spec hq).1 (Nat.succ_ne_zero _) (leL_le h.1) h.2
  · rename_i off sz ag id n o hq hx
    unfold faddrGr at h
    split at h
    · rename_i e s vs hh
      obtain ⟨rfl, h⟩ := h
      exact AOp_fieldAddr_gptr _ _ _ _ _ _ _ hx hh (nthF_spec hq).1 (Nat.succ_ne_zero _) h
    · exact h.elim
  · exact h.elim
theorem fieldF_sound {t k : Nat} {x : Operand} (h : fieldF (nthF (tInfo P t) k) (st.opd x) st.heap K) : AOp P ro ⟨dst, .field t x k, ty, pos, after, guard⟩ K st := by
  unfold fieldF at h
  split at h
  · rename_i off sz ag cs hq hx
    obtain ⟨h1, h2⟩ := h
    have hf := nthF_spec hq
    unfold loadG at h2
    split at h2
    · exact AOp_field _ _ _ hx hf (leL_le h1) h2
    · rename_i v he
      obtain ⟨g1, g2⟩ := take_one he
      exact AOp_field1 _ _ _ _ hx hf g1 (leL_le h1) g2 h2
    · exact h2.elim
  · exact h.elim
theorem AOp_nilCheck_ptr {x : Operand} (id o : Nat) (hx : st.opd x = .ptr id o) (k : K (.ptr id o) st.heap) : AOp P ro ⟨dst, .nilCheck x, ty, pos, after, guard⟩ K st :=
  AOp_pure _ (fun c => by simp) (fun C a _ _ hs => by
    have hv := hs.opd x
    rw [hx] at hv
    generalize hxx : a.eval x = xx at hv
    cases hv with
    | ptr _ _ hk => exact ⟨_, by simp [execOp, hxx], .ptr id o hk⟩) k
theorem AOp_nilCheck_cptr {x : Operand} (cs : List AV) (hx : st.opd x = .cptr cs) (k : K (.cptr cs) st.heap) : AOp P ro ⟨dst, .nilCheck x, ty, pos, after, guard⟩ K st :=
  AOp_pure _ (fun c => by simp) (fun C a _ _ hs => by
    have hv := hs.opd x
    rw [hx] at hv
    generalize hxx : a.eval x = xx at hv
    cases hv with
    | cptr _ b o f hrow hrel => exact ⟨_, by simp [execOp, hxx], .cptr cs b o f hrow hrel⟩) k
def nilV (a : AV) (h : List AObj) (K : AV → List AObj → Prop) : Prop := match a with
  | .ptr id o => K (.ptr id o) h
  | .cptr cs => K (.cptr cs) h
  | _ => False
theorem nilV_sound {x : Operand} (h : nilV (st.opd x) st.heap K) : AOp P ro ⟨dst, .nilCheck x, ty, pos, after, guard⟩ K st := by
  unfold nilV at h
  split at h
  · rename_i id o hx; exact AOp_nilCheck_ptr _ _ hx h
  · rename_i cs hx; exact AOp_nilCheck_cptr _ hx h
  · exact h.elim
def iaddrGr (sz id len : Nat) (n : Int) (c : Option AObj) (h : List AObj) (K : AV → List AObj → Prop) : Prop := match c with
  | some (.grow _ s vs) => s = sz ∧ len * sz = vs.length ∧ 0 ≤ n ∧ n.toNat < len ∧ K (.gptr id vs.length (n.toNat * sz)) h
  | _ => False
theorem gr_val {C : Ctx} {id n : Nat} {e : TypeId} {sz : Nat} {vs : List AV} {x : Value} (hv : VRel C (.gr id n) x) (hh : C.H[id]? = some (.grow e sz vs)) (hl : n * sz = vs.length) :
    ∃ c cur, x = .slice (some ⟨C.μ id, 0, none⟩) n c ∧ C.w.heap[C.μ id]? = some (.cells cur e (0, 0)) ∧ c ≤ maxLen ∧ n ≤ c ∧ cur.size = c * sz := by
  cases hv with
  | gr _ _ a c hgr =>
    obtain ⟨e', sz', vs', hk, _, _, hr⟩ := hgr
    rw [hh] at hk
    injection hk with hk; injection hk with q1 q2 q3
    subst q1 q2 q3
    obtain ⟨cur, g1, g2, g3, g4, g5⟩ := hr hl
    exact ⟨c, cur, by rw [g1], g2, g3, g4, g5⟩
theorem AOp_indexAddr_gr {t : Nat} {x y : Operand} (e sz id len : Nat) (e' : TypeId) (vs : List AV) (kd : IntKind) (n : Int) (hx : st.opd x = .gr id len) (hy : st.opd y = .int kd n) (hh : st.heap[id]? = some (.grow e' sz vs)) (hl : len * sz = vs.length) (ht : SliceT P t e) (hs : SzOf P e sz)
    (h0 : 0 ≤ n) (hlt : n.toNat < len) (k : K (.gptr id vs.length (n.toNat * sz)) st.heap) : AOp P ro ⟨dst, .indexAddr t x y, ty, pos, after, guard⟩ K st :=
  AOp_pure _ (fun c => by simp) (fun C a _ hH hsr => by
    have hv := hsr.opd x
    have hi := hsr.opd y
    rw [hx] at hv
    rw [hy] at hi
    obtain ⟨c, cur, hxx, _, _, hc, _⟩ := gr_val hv (by rw [hH]; exact hh) hl
    have hle : n < (len : Int) := by omega
    have hrun : (Instr.indexAt t (.slice (some ⟨C.μ id, 0, none⟩) len c) (.int kd n)).run P C.w = .ok (.pointer (some ⟨C.μ id, n.toNat * sz, none⟩)) C.w := by
      have ht' : P.underlying t = some (.slice e) := ht
      simp [Instr.indexAt, run_underlying ht', asIntOf, h0, hle, hs.run, add_mk]
    exact ⟨_, by simp [execOp, hxx, hi.int_inv, hrun], .gptr _ _ _ _ ⟨e', sz, vs, by rw [hH]; exact hh, Nat.le_refl _, fun _ => rfl⟩⟩) k
theorem AOp_len_gr {x : Operand} {t : TypeId} (e : TypeId) (id n : Nat) (hx : st.opd x = .gr id n) (ht : SliceT P t e) (k : K (.int .i64 n) st.heap) :
    AOp P ro ⟨dst, .call { callee := .builtin .len, args := #[x], argTypes := #[t] }, ty, pos, after, guard⟩ K st :=
  AOp_pure _ (fun c => by simp) (fun C a _ _ hsr => by
    have hv := hsr.opd x
    rw [hx] at hv
    generalize hxx : a.eval x = xx at hv
    cases hv with
    | gr _ _ ad c hgr =>
      have ht' : P.underlying t = some (.slice e) := ht
      exact ⟨_, by simp [execOp, resolve, invoke, builtin, hxx, Builtin.len_, run_underlying ht', goInt], .int .i64 _⟩) k
def iaddrT (k : TK) (a b : AV) (h : List AObj) (K : AV → List AObj → Prop) : Prop := match k, a, b with
  | .slice _ (some (sz + 1)), .sl _ xs, .int _ n => Uni (sz + 1) xs ∧ 0 ≤ n ∧ ∃ hn : n.toNat < xs.length, K (.cptr (xs[n.toNat]).cells) h
  | .slice _ (some (sz + 1)), .arr id off len, .int _ n => 0 ≤ n ∧ n.toNat < len ∧ K (.ptr id (off + n.toNat * (sz + 1))) h
  | .slice _ (some (sz + 1)), .gr id len, .int _ n => iaddrGr (sz + 1) id len n h[id]? h K
  | .array len _ (some sz), .ptr id o, .int _ n => 0 ≤ n ∧ n.toNat < len ∧ K (.ptr id (o + n.toNat * sz)) h
  | .array len _ (some sz), .cptr cs, .int _ n => 0 ≤ n ∧ n.toNat < len ∧ K (.cptr (cs.drop (n.toNat * sz))) h
  | _, _, _ => False
def kdOf (i : Option TI) : TK := match i with
  | some i => i.kd
  | none => .other
theorem kdOf_some {t : Nat} {k : TK} (h : kdOf (tInfo P t) = k) (hk : k ≠ .other) : ∃ i, tInfo P t = some i ∧ i.kd = k := by
  unfold kdOf at h
  split at h
  · rename_i i hi; exact ⟨i, hi, h⟩
  · exact absurd h.symm hk
theorem iaddrT_sound {t : Nat} {x y : Operand} (h : iaddrT (kdOf (tInfo P t)) (st.opd x) (st.opd y) st.heap K) : AOp P ro ⟨dst, .indexAddr t x y, ty, pos, after, guard⟩ K st := by
  unfold iaddrT at h
  split at h
  · rename_i e sz tk xs kd n hk hx hy
    obtain ⟨h1, h2, h3, h4⟩ := h
    obtain ⟨i, hi, hk⟩ := kdOf_some hk (by simp)
    obtain ⟨g1, g2⟩ := tI_slice hi hk
    exact AOp_indexAddr_sl _ _ _ _ _ _ hx hy g1 (elemSz_spec g2.symm).1 (Nat.succ_pos _) h1 h2 h3 h4
  · rename_i e sz id off len kd n hk hx hy
    obtain ⟨h1, h2, h3⟩ := h
    obtain ⟨i, hi, hk⟩ := kdOf_some hk (by simp)
    obtain ⟨g1, g2⟩ := tI_slice hi hk
    exact AOp_indexAddr_arr _ _ _ _ _ _ _ hx hy g1 (elemSz_spec g2.symm).1 h1 h2 h3
  · rename_i e sz id len kd n hk hx hy
    obtain ⟨i, hi, hk⟩ := kdOf_some hk (by simp)
    obtain ⟨g1, g2⟩ := tI_slice hi hk
    unfold iaddrGr at h
    split at h
    · rename_i e' s vs hh
      obtain ⟨rfl, h1, h2, h3, h4⟩ := h
      exact AOp_indexAddr_gr _ _ _ _ _ _ _ _ hx hy hh h1 g1 (elemSz_spec g2.symm).1 h2 h3 h4
    · exact h.elim
  · rename_i len e sz id o kd n hk hx hy
    obtain ⟨h1, h2, h3⟩ := h
    obtain ⟨i, hi, hk⟩ := kdOf_some hk (by simp)
    obtain ⟨g1, g2⟩ := tI_array hi hk
    exact AOp_indexAddr_ptr _ _ _ _ _ _ _ hx hy g1 (elemSz_spec g2.symm).1 h1 h2 h3
  · rename_i len e sz cs kd n hk hx hy
    obtain ⟨h1, h2, h3⟩ := h
    obtain ⟨i, hi, hk⟩ := kdOf_some hk (by simp)
    obtain ⟨g1, g2⟩ := tI_array hi hk
    exact AOp_indexAddr_cptr _ _ _ _ _ _ hx hy g1 (elemSz_spec g2.symm).1 h1 h2 h3
  · exact h.elim
theorem AOp_index_cell {t len e sz : Nat} {x y : Operand} (cs : List AV) (kd : IntKind) (n : Int) (hx : st.opd x = .agg cs) (hy : st.opd y = .int kd n) (ht : ArrT P t len e) (hs : SzOf P e sz) (ha : AggT P e false)
    (h0 : 0 ≤ n) (hlt : n.toNat < len) (hc : n.toNat * sz < cs.length) (k : K cs[n.toNat * sz] st.heap) : AOp P ro ⟨dst, .index t x y, ty, pos, after, guard⟩ K st :=
  AOp_pure _ (fun c => by simp) (fun C a _ _ hsr => by
    have hv := hsr.opd x
    have hi := hsr.opd y
    rw [hx] at hv
    rw [hy] at hi
    obtain ⟨vs, hxx, hsz, hrel⟩ := hv.agg_inv
    have ht' : P.underlying t = some (.array len e) := ht
    have hle : n < len := by omega
    have hg : vs[n.toNat * sz]? = some (vs[n.toNat * sz]'(by omega)) := Array.getElem?_eq_getElem (by omega)
    refine ⟨_, ?_, hrel _ hc⟩
    simp [execOp, hxx, hi.int_inv, Instr.index, asIntOf, run_underlying ht', h0, hle, hs.run, ha.run, part, hg]) k
theorem AOp_index_agg {t len e sz : Nat} {x y : Operand} (cs : List AV) (kd : IntKind) (n : Int) (hx : st.opd x = .agg cs) (hy : st.opd y = .int kd n) (ht : ArrT P t len e) (hs : SzOf P e sz) (ha : AggT P e true)
    (h0 : 0 ≤ n) (hlt : n.toNat < len) (hc : n.toNat * sz + sz ≤ cs.length) (k : K (.agg ((cs.drop (n.toNat * sz)).take sz)) st.heap) : AOp P ro ⟨dst, .index t x y, ty, pos, after, guard⟩ K st :=
  AOp_pure _ (fun c => by simp) (fun C a _ _ hsr => by
    have hv := hsr.opd x
    have hi := hsr.opd y
    rw [hx] at hv
    rw [hy] at hi
    obtain ⟨vs, hxx, hsz, hrel⟩ := hv.agg_inv
    have ht' : P.underlying t = some (.array len e) := ht
    have hle : n < len := by omega
    refine ⟨.agg (vs.extract (n.toNat * sz) (n.toNat * sz + sz)), ?_, .agg _ _ (by simp; omega) (fun j hj => ?_)⟩
    · simp [execOp, hxx, hi.int_inv, Instr.index, asIntOf, run_underlying ht', h0, hle, hs.run, ha.run, part]
    · simp at hj
      have := hrel (n.toNat * sz + j) (by omega)
      simpa using this) k
def idxE : Option TI → List AV → Nat → List AObj → (AV → List AObj → Prop) → Prop
  | some ⟨s, true, _, _⟩, cs, m, h, K => m * s + s ≤ cs.length ∧ K (.agg ((cs.drop (m * s)).take s)) h
  | some ⟨s, false, _, _⟩, cs, m, h, K => ∃ hn : m * s < cs.length, K cs[m * s] h
  | none, _, _, _, _ => False
def indexT (g : Nat → Option TI) (k : TK) (a b : AV) (h : List AObj) (K : AV → List AObj → Prop) : Prop := match k, a, b with
  | .str, .str s, .int _ n => 0 ≤ n ∧ ∃ hn : n.toNat < s.length, K (.int .u8 (s[n.toNat]).toNat) h
  | .array len e _, .agg cs, .int _ n => 0 ≤ n ∧ n.toNat < len ∧ idxE (g e) cs n.toNat h K
  | _, _, _ => False
theorem indexT_sound {t : Nat} {x y : Operand} (h : indexT (tInfo P) (kdOf (tInfo P t)) (st.opd x) (st.opd y) st.heap K) : AOp P ro ⟨dst, .index t x y, ty, pos, after, guard⟩ K st := by
  unfold indexT at h
  split at h
  · rename_i s kd n hk hx hy
    obtain ⟨h1, h2, h3⟩ := h
    obtain ⟨i, hi, hk⟩ := kdOf_some hk (by simp)
    exact AOp_index_str _ _ _ hx hy (tI_str hi hk) h1 h2 h3
  · rename_i len e sz cs kd n hk hx hy
    obtain ⟨h1, h2, h3⟩ := h
    obtain ⟨i, hi, hk⟩ := kdOf_some hk (by simp)
    have ht := (tI_array hi hk).1
    unfold idxE at h3
    split at h3
    · rename_i s _ _ he
      exact AOp_index_agg _ _ _ hx hy ht (tI_sz he) (tI_agg he) h1 h2 h3.1 h3.2
    · rename_i s _ _ he
      obtain ⟨hn, h3⟩ := h3
      exact AOp_index_cell _ _ _ hx hy ht (tI_sz he) (tI_agg he) h1 h2 hn h3
    · exact h3.elim
  · exact h.elim
def inR (k : IntKind) (n : Int) : Prop := match k with
  | .i64 => -9223372036854775808 ≤ n ∧ n ≤ 9223372036854775807
  | .u8 => 0 ≤ n ∧ n ≤ 255
  | .u64 => 0 ≤ n ∧ n ≤ 18446744073709551615
  | k => k.wrap n = n
theorem inR_wrap {k : IntKind} {n : Int} (h : inR k n) : k.wrap n = n := by
  unfold inR at h
  split at h
  · exact IntWalk.i64_in n h
  · exact IntWalk.u8_in n h
  · exact IntWalk.u64_in n h
  · exact h
def binI (op : BinOp) (k : IntKind) (n m : Int) (h : List AObj) (K : AV → List AObj → Prop) : Prop := match op with
  | .add => inR k (n + m) ∧ K (.int k (n + m)) h
  | .sub => inR k (n - m) ∧ K (.int k (n - m)) h
  | .mul => inR k (n * m) ∧ K (.int k (n * m)) h
  | .quo => 0 < m ∧ 0 ≤ n ∧ inR k (n / m) ∧ K (.int k (n / m)) h
  | .rem => 0 < m ∧ 0 ≤ n ∧ K (.int k (n % m)) h
  | .shr => 0 ≤ m ∧ m.toNat ≤ k.bits ∧ K (.int k (n / 2 ^ m.toNat)) h
  | .eql => K (.bool (decide (n = m))) h
  | .neq => K (.bool (!decide (n = m))) h
  | .lss => K (.bool (decide (n < m))) h
  | .leq => K (.bool (decide (n ≤ m))) h
  | .gtr => K (.bool (decide (m < n))) h
  | .geq => K (.bool (decide (m ≤ n))) h
  | _ => False
theorem binI_spec {op : BinOp} {k : IntKind} {n m : Int} {h : List AObj} (h1 : op ≠ .quo) (h2 : op ≠ .rem) (h3 : op ≠ .shr) (hb : binI op k n m h K) : ∃ v, intAV k n m op = some v ∧ K v h := by
  cases op <;> first
    | exact absurd rfl h1
    | exact absurd rfl h2
    | exact absurd rfl h3
    | exact ⟨_, rfl, hb⟩
    | exact hb.elim
    | (obtain ⟨g1, g2⟩ := hb; exact ⟨_, rfl, by rw [inR_wrap g1]; exact g2⟩)
theorem AOp_bin_run {op : BinOp} {x y : Operand} {t t' : TypeId} (kd : IntKind) (n m : Int) (v : AV) (hx : st.opd x = .int kd n) (hy : st.opd y = .int kd m) (hv : ∀ (C : Ctx), ∃ z, (binOp op t (.int kd n) (.int kd m)).run P C.w = .ok z C.w ∧ VRel C v z)
    (k : K v st.heap) : AOp P ro ⟨dst, .binOp op t x y t', ty, pos, after, guard⟩ K st :=
  AOp_pure v (fun c => by simp) (fun C a _ _ hs => by
    have h1 := hs.opd x
    have h2 := hs.opd y
    rw [hx] at h1
    rw [hy] at h2
    obtain ⟨z, hz, hr⟩ := hv C
    refine ⟨z, ?_, hr⟩
    simp only [execOp, h1.int_inv, h2.int_inv, Sem.run_bind, eqGuard_run (P := P) (p := .int kd n) (fun cs => by simp) (by simp), Result.andThen_ok, hz]
    rfl) k
theorem binI_div {op : BinOp} {x y : Operand} {t t' : TypeId} (kd : IntKind) (n m : Int) (hop : op = .quo ∨ op = .rem ∨ op = .shr) (hx : st.opd x = .int kd n) (hy : st.opd y = .int kd m) (h : binI op kd n m st.heap K) : AOp P ro ⟨dst, .binOp op t x y t', ty, pos, after, guard⟩ K st := by
  rcases hop with rfl | rfl | rfl
  · obtain ⟨h1, h2, h3, h4⟩ := h
    refine AOp_bin_run kd n m (.int kd (n / m)) hx hy (fun C => ⟨.int kd (n / m), ?_, .int _ _⟩) h4
    have hm : m ≠ 0 := by omega
    have : n.tdiv m = n / m := Int.tdiv_eq_ediv_of_nonneg h2
    simp [binOp, Op.intDiv, hm, this, inR_wrap h3]
  · obtain ⟨h1, h2, h4⟩ := h
    refine AOp_bin_run kd n m (.int kd (n % m)) hx hy (fun C => ⟨.int kd (n % m), ?_, .int _ _⟩) h4
    have hm : m ≠ 0 := by omega
    have : n.tmod m = n % m := Int.tmod_eq_emod_of_nonneg h2
    simp [binOp, Op.intDiv, hm, this]
  · obtain ⟨h1, h2, h4⟩ := h
    refine AOp_shr _ _ _ _ hx hy h1 h2 ?_
    rw [Int.fdiv_eq_ediv_of_nonneg _ (Int.le_of_lt (Int.pow_pos (by decide)))]
    exact h4
theorem mk_append (a b : List UInt8) : (⟨a.toArray⟩ : ByteArray) ++ ⟨b.toArray⟩ = ⟨(a ++ b).toArray⟩ := by
  apply ByteArray.ext
  simp
theorem AOp_str_add {x y : Operand} {t t' : TypeId} (s1 s2 : List UInt8) (hx : st.opd x = .str s1) (hy : st.opd y = .str s2) (hl : s1.length + s2.length ≤ 9223372036854775807)
    (k : K (.str (s1 ++ s2)) st.heap) : AOp P ro ⟨dst, .binOp .add t x y t', ty, pos, after, guard⟩ K st :=
  AOp_pure _ (fun c => by simp) (fun C a _ _ hs => by
    have h1 := hs.opd x
    have h2 := hs.opd y
    rw [hx] at h1
    rw [hy] at h2
    refine ⟨.string ⟨(s1 ++ s2).toArray⟩, ?_, .str _⟩
    have hz : (binOp .add t (.string ⟨s1.toArray⟩) (.string ⟨s2.toArray⟩)).run P C.w = .ok (.string ⟨(s1 ++ s2).toArray⟩) C.w := by
      have hn : ¬ (((⟨s1.toArray⟩ : ByteArray).size + (⟨s2.toArray⟩ : ByteArray).size : Nat) : Int) > IntKind.i64.max := by
        rw [size_mk, size_mk]
        have : IntKind.i64.max = 9223372036854775807 := by decide
        rw [this]; omega
      simp only [binOp, Op.stringOp, if_neg hn, mk_append]
      rfl
    simp only [execOp, h1.str_inv, h2.str_inv, Sem.run_bind, eqGuard_run (P := P) (p := .string ⟨s1.toArray⟩) (fun cs => by simp) (by simp), Result.andThen_ok, hz]
    rfl) k
def binS (op : BinOp) (s u : List UInt8) (h : List AObj) (K : AV → List AObj → Prop) : Prop := match op with
  | .eql => K (.bool (decide (s = u))) h
  | .neq => K (.bool (!decide (s = u))) h
  | .lss => K (.bool (Op.bytesLess s u)) h
  | .leq => K (.bool (Op.bytesLess s u || decide (s = u))) h
  | .gtr => K (.bool (!(Op.bytesLess s u || decide (s = u)))) h
  | .geq => K (.bool (!Op.bytesLess s u)) h
  | .add => s.length + u.length ≤ 9223372036854775807 ∧ K (.str (s ++ u)) h
  | _ => False
theorem binS_spec {op : BinOp} {s u : List UInt8} {h : List AObj} (hne : op ≠ .add) (hb : binS op s u h K) : ∃ v, strAV s u op = some v ∧ K v h := by
  cases op <;> first
    | exact absurd rfl hne
    | exact ⟨_, rfl, hb⟩
    | exact hb.elim
def binB (op : BinOp) (k : TK) (a b : Bool) (h : List AObj) (K : AV → List AObj → Prop) : Prop := match op, k with
  | .eql, .bool => K (.bool (a == b)) h
  | .neq, .bool => K (.bool (!(a == b))) h
  | _, _ => False
def binV (op : BinOp) (k : TK) (a b : AV) (h : List AObj) (K : AV → List AObj → Prop) (F : Prop) : Prop := match a, b with
  | .int k n, .int k' m => k' = k ∧ binI op k n m h K
  | .str s, .str u => binS op s u h K
  | .bool a, .bool b => binB op k a b h K
  | _, _ => F
theorem binV_sound {op : BinOp} {t t' : Nat} {x y : Operand} (h : binV op (kdOf (tInfo P t)) (st.opd x) (st.opd y) st.heap K (AOp P ro ⟨dst, .binOp op t x y t', ty, pos, after, guard⟩ K st)) : AOp P ro ⟨dst, .binOp op t x y t', ty, pos, after, guard⟩ K st := by
  unfold binV at h
  split at h
  · rename_i k n k' m hx hy
    obtain ⟨rfl, h⟩ := h
    by_cases hop : op = .quo ∨ op = .rem ∨ op = .shr
    · exact binI_div _ _ _ hop hx hy h
    · obtain ⟨v, h1, h2⟩ := binI_spec (fun e => hop (.inl e)) (fun e => hop (.inr (.inl e))) (fun e => hop (.inr (.inr e))) h
      exact AOp_bin_int _ _ _ _ hx hy h1 h2
  · rename_i s u hx hy
    by_cases ha : op = .add
    · subst ha
      exact AOp_str_add _ _ hx hy h.1 h.2
    · obtain ⟨v, h1, h2⟩ := binS_spec ha h
      exact AOp_bin_str _ _ _ hx hy h1 h2
  · rename_i a b hx hy
    unfold binB at h
    split at h
    · rename_i hk
      obtain ⟨i, hi, hk⟩ := kdOf_some hk (by simp)
      exact AOp_eql_bool _ _ hx hy (tI_bool hi hk) h
    · rename_i hk
      obtain ⟨i, hi, hk⟩ := kdOf_some hk (by simp)
      exact AOp_neq_bool _ _ hx hy (tI_bool hi hk) h
    · exact h.elim
  · exact h
def unV (op : UnOp) (a : AV) (h : List AObj) (K : AV → List AObj → Prop) (F : Prop) : Prop := match op, a with
  | .not, .bool b => K (.bool (!b)) h
  | .neg, .int k n => inR k (0 - n) ∧ K (.int k (0 - n)) h
  | _, _ => F
theorem unV_sound {op : UnOp} {t : Nat} {x : Operand} (h : unV op (st.opd x) st.heap K (AOp P ro ⟨dst, .unOp op t x, ty, pos, after, guard⟩ K st)) : AOp P ro ⟨dst, .unOp op t x, ty, pos, after, guard⟩ K st := by
  unfold unV at h
  split at h
  · rename_i b hx; exact AOp_not _ hx h
  · rename_i k n hx
    refine AOp_neg _ _ hx ?_
    rw [inR_wrap h.1]; exact h.2
  · exact h
def fillV (fs : List (Nat × Nat × Bool)) : List AV → List (Nat × AV) → List AObj → (AV → List AObj → Prop) → Prop
  | cells, [], h, K => K (.agg cells) h
  | cells, (i, v) :: rest, h, K => match fs[i]? with
    | some (off, sz, _) => okV v ∧ lenIs v.cells sz ∧ leL (off + sz) cells ∧ fillV fs (splice cells off v.cells) rest h K
    | none => False
theorem fillV_spec {fs : List (Nat × Nat × Bool)} {h : List AObj} : ∀ {parts : List (Nat × AV)} {cells : List AV}, fillV fs cells parts h K → ∃ out, afill (fun i => (fs.map fun q => (q.1, q.2.1))[i]?) cells parts = some out ∧ K (.agg out) h
  | [], cells, hf => ⟨cells, rfl, hf⟩
  | (i, v) :: rest, cells, hf => by
    simp only [fillV] at hf
    split at hf
    · rename_i off sz ag hq
      obtain ⟨h1, h2, h3, h4⟩ := hf
      obtain ⟨out, g1, g2⟩ := fillV_spec h4
      refine ⟨out, ?_, g2⟩
      have hl := lenIs_eq h2
      have hq' : (fs.map fun q => (q.1, q.2.1))[i]? = some (off, sz) := by rw [List.getElem?_map, hq]; rfl
      simp only [afill, hq']
      rw [if_pos ⟨hl, by rw [hl]; exact leL_le h3, okV_or h1⟩]
      exact g1
    · exact hf.elim
theorem AOp_buildA {t len e sz : Nat} {parts : Array (Nat × Operand)} (zs : List Value) (out : List AV) (hz : ZeroOf P t zs) (ht : ArrT P t len e) (hs : SzOf P e sz) (avs : List (Nat × AV)) (hp : parts.toList.map (fun p => (p.1, st.opd p.2)) = avs)
    (hf : afill (fun i => some (i * sz, sz)) (zs.map ofVal) avs = some out) (k : K (.agg out) st.heap) : AOp P ro ⟨dst, .build t parts, ty, pos, after, guard⟩ K st :=
  AOp_pure _ (fun c => by simp) (fun C a _ _ hsr => by
    obtain ⟨z, hzr, hzc⟩ := hz.run C.w
    subst hp
    have ht' : P.underlying t = some (.array len e) := ht
    obtain ⟨cs', hfill, hsz, hrel⟩ := fill_rel hsr (fun i => some (i * sz, sz)) parts.toList (zs.map ofVal) z.cells out (ZeroOf.rel hzc) hf
    refine ⟨.agg cs', ?_, .agg out cs' hsz hrel⟩
    have hmap : (parts.map fun x => (x.1, a.eval x.2)).toList = parts.toList.map fun p => (p.1, a.eval p.2) := by simp
    simp only [execOp, Instr.build, Sem.run_bind, hzr, Result.andThen_ok, run_underlying ht', hs.run, hmap, hfill, Sem.run_pure]) k
def fillA (s : Nat) : List AV → List (Nat × AV) → List AObj → (AV → List AObj → Prop) → Prop
  | cells, [], h, K => K (.agg cells) h
  | cells, (i, v) :: rest, h, K => okV v ∧ lenIs v.cells s ∧ leL (i * s + s) cells ∧ fillA s (splice cells (i * s) v.cells) rest h K
theorem fillA_spec {s : Nat} {h : List AObj} : ∀ {parts : List (Nat × AV)} {cells : List AV}, fillA s cells parts h K → ∃ out, afill (fun i => some (i * s, s)) cells parts = some out ∧ K (.agg out) h
  | [], cells, hf => ⟨cells, rfl, hf⟩
  | (i, v) :: rest, cells, hf => by
    obtain ⟨h1, h2, h3, h4⟩ := hf
    obtain ⟨out, g1, g2⟩ := fillA_spec h4
    refine ⟨out, ?_, g2⟩
    have hl := lenIs_eq h2
    simp only [afill]
    rw [if_pos ⟨hl, by rw [hl]; exact leL_le h3, okV_or h1⟩]
    exact g1
def buildV (i : Option TI) (parts : List (Nat × AV)) (h : List AObj) (K : AV → List AObj → Prop) : Prop := match i with
  | some ⟨_, _, some zs, .struct fs⟩ => fillV fs zs parts h K
  | some ⟨_, _, some zs, .array _ _ (some s)⟩ => fillA s zs parts h K
  | _ => False
theorem buildV_sound {t : Nat} {parts : Array (Nat × Operand)} (h : buildV (tInfo P t) (parts.toList.map fun p => (p.1, st.opd p.2)) st.heap K) : AOp P ro ⟨dst, .build t parts, ty, pos, after, guard⟩ K st := by
  unfold buildV at h
  split at h
  · rename_i zs fs hi
    obtain ⟨l, hz, rfl⟩ := tI_zs hi rfl
    obtain ⟨out, g1, g2⟩ := fillV_spec h
    exact AOp_build _ _ _ hz (tI_structT hi rfl) _ rfl g1 g2
  · rename_i zs _ _ s hi
    obtain ⟨l, hz, rfl⟩ := tI_zs hi rfl
    obtain ⟨out, g1, g2⟩ := fillA_spec h
    obtain ⟨ha, hs⟩ := tI_array hi rfl
    exact AOp_buildA _ _ hz ha (elemSz_spec hs.symm).1 _ rfl g1 g2
  · exact h.elim
def rowOk (sz : Nat) : Nat → List (Nat × AV) → Prop
  | _, [] => True
  | k, (i, v) :: ps => i = k ∧ okV v ∧ lenIs v.cells sz ∧ rowOk sz (k + 1) ps
theorem rowOk_spec {sz : Nat} : ∀ {ps : List (Nat × AV)} {k : Nat}, rowOk sz k ps → ps = idxL k (ps.map (·.2)) ∧ ∀ v, v ∈ ps.map (·.2) → v.cells.length = sz ∧ (v.isCell || v.isAgg) = true
  | [], _, _ => ⟨rfl, by simp⟩
  | (i, v) :: ps, k, h => by
    obtain ⟨rfl, h2, h3, h4⟩ := h
    obtain ⟨g1, g2⟩ := rowOk_spec h4
    refine ⟨?_, ?_⟩
    · simp only [List.map_cons, idxL]; rw [← g1]
    · intro u hu
      simp only [List.map_cons, List.mem_cons] at hu
      rcases hu with rfl | hu
      · exact ⟨lenIs_eq h3, okV_or h2⟩
      · exact g2 u hu
theorem AOp_buildSliceAt {t e n sz : Nat} {parts : Array (Nat × Operand)} (kp : Nat) (hkp : st.heap[kp]? = some .dead) (zs : List Value) (xs : List AV) (ht : SliceT P t e) (hs : SzOf P e sz) (hz : ZeroOf P e zs) (hn : n = xs.length)
    (avs : List (Nat × AV)) (hp : parts.toList.map (fun p => (p.1, st.opd p.2)) = avs)
    (hf : afill (fun i => some (i * sz, sz)) ((List.range (n * sz)).map fun i => (zs.map ofVal).getD (i % zs.length) .junk) avs = some (flat xs)) (hsmall : n * sz ≤ 16777216) (hz0 : zs.length = sz) (hpos : 0 < sz) (hfl : (flat xs).length = n * sz)
    (k : K (.sl (.own kp) xs) (st.heap.set kp (.tok e sz n))) : AOp P ro ⟨dst, .buildSlice t n parts, ty, pos, after, guard⟩ K st :=
  AOp_value (fun ρ => semAt_of (fun c => by simp) ro ρ) fun C a hg hH hsr => by
    obtain ⟨z, hzr, hzc⟩ := hz.run C.w
    subst hp
    have hz1 : z.cells.size = sz := by rw [← hz0, ← hzc]; simp
    have ht' : P.underlying t = some (.slice e) := ht
    obtain ⟨c0, hc0⟩ : ∃ c0 : Array Value, c0 = ((Array.range (n * sz)).map ((if n * sz = 0 then #[] else z.cells)[· % (if n * sz = 0 then #[] else z.cells).size]!)) := ⟨_, rfl⟩
    have hrel0 : CellsRel C ((List.range (n * sz)).map fun i => (zs.map ofVal).getD (i % zs.length) .junk) c0 := by
      subst hc0
      refine ⟨by simp, fun i hi => ?_⟩
      simp at hi
      have hne : n * sz ≠ 0 := by omega
      simp only [if_neg hne, List.getElem_map, List.getElem_range, Array.getElem_map, Array.getElem_range]
      rw [getElem!_mod z.cells i (by omega)]
      have := VRel.ofVal C (z.cells[i % z.cells.size]'(Nat.mod_lt _ (by omega)))
      subst hzc
      have hlt : i % z.cells.size < z.cells.size := Nat.mod_lt _ (by omega)
      simpa [List.getD, hlt] using this
    obtain ⟨cs', hfill, hsz', hrel⟩ := fill_rel hsr (fun i => some (i * sz, sz)) parts.toList _ c0 (flat xs) hrel0 hf
    have hmap : (parts.map fun x => (x.1, a.eval x.2)).toList = parts.toList.map fun p => (p.1, a.eval p.2) := by simp
    have hcs' : cs'.size = n * sz := by rw [← hfl]; omega
    have hnC : C.H[kp]? = some .dead := by rw [hH]; exact hkp
    have hnl := (List.getElem?_eq_some_iff.1 hnC).1
    obtain ⟨hg', he⟩ := step_atS (n * sz) hg kp hnC (.tok e sz n) (.cells cs' e) (C.w.alloc (.cells cs' e)) rfl ⟨rfl, rfl, rfl, by first | exact Nat.le_refl _ | exact Nat.le_add_right _ _⟩ (by simp [AObj.kind]) rfl (fun _ => by
      refine ⟨cs', ?_, ?_, by omega⟩
      · simp only [if_true]; exact heap_alloc_new C.w _
      · simp)
    refine ⟨_, .slice (some ⟨C.w.heap.size, 0, none⟩) n n, .sl (.own kp) xs, ?_, hg', he, ?_, by rw [← hH] at k; exact k⟩
    · have hsm : ¬ (n * sz > 2 ^ 24) := by omega
      simp only [execOp, Instr.buildSlice, Sem.run_bind, run_underlying ht', Result.andThen_ok, hs.run, Sem.run_ite, if_neg hsm, Sem.run_pure]
      by_cases h0 : n * sz = 0
      · simp only [if_pos h0] at hc0
        simp only [if_pos h0, ← hc0, hmap, hfill, newRow, Sem.run_bind, run_newObj, Sem.run_pure, Result.andThen_ok]
        rfl
      · simp only [if_neg h0] at hc0
        simp only [if_neg h0, hzr, Result.andThen_ok, ← hc0, hmap, hfill, newRow, Sem.run_bind, run_newObj, Sem.run_pure]
        rfl
    · have hblk : (C.w.alloc (.cells cs' e)).heap[C.w.heap.size]? = some (.cells cs' e (0, 0)) := heap_alloc_new C.w _
      refine VRel.newSl (cur := cs') (e := e) (fr := (0, 0)) hblk hn (Nat.le_refl _) ?_ ?_ (fun i hi hi' => (hrel i hi).ext he) _ ?_
      · rw [hfl]; show _ ≤ if _ then _ else _; rw [if_pos rfl]; omega
      · rw [hfl]; omega
      · refine ⟨e, sz, n, by show (C.H.set kp _)[kp]? = _; simp [hnl], by omega, fun _ => ⟨cs', ?_, ?_, ?_, hcs'⟩⟩
        · simp
        · simp only [if_true]; exact hblk
        · have : n ≤ n * sz := Nat.le_mul_of_pos_right _ hpos
          simp only [maxLen]; omega
def bsliceV (k : TK) (n : Nat) (parts : List (Nat × AV)) (h : List AObj) (K : AV → List AObj → Prop) : Prop := match k, n, parts with
  | .slice _ (some _), 0, [] => K (.sl .zero []) h
  | .slice _ (some sz), n + 1, ps => n + 1 = ps.length ∧ (n + 1) * sz ≤ 16777216 ∧ rowOk sz 0 ps ∧ K (.sl .none (ps.map (·.2))) h
  | _, _, _ => False
theorem bsliceV_sound {t n : Nat} {parts : Array (Nat × Operand)} (h : bsliceV (kdOf (tInfo P t)) n (parts.toList.map fun p => (p.1, st.opd p.2)) st.heap K) : AOp P ro ⟨dst, .buildSlice t n parts, ty, pos, after, guard⟩ K st := by
  unfold bsliceV at h
  split at h
  · rename_i e sz hk hp
    obtain ⟨i, hi, hk⟩ := kdOf_some hk (by simp)
    obtain ⟨g1, g2⟩ := tI_slice hi hk
    have : parts.toList = [] := by simpa using hp
    exact AOp_buildSlice0 g1 (elemSz_spec g2.symm).1 (by rw [← Array.toList_inj, this]) h
  · rename_i n e sz hk
    obtain ⟨h1, h2, h3, h4⟩ := h
    obtain ⟨i, hi, hk⟩ := kdOf_some hk (by simp)
    obtain ⟨g1, g2⟩ := tI_slice hi hk
    obtain ⟨g3, zs, g4, g5⟩ := elemSz_spec g2.symm
    obtain ⟨g6, g7⟩ := rowOk_spec h3
    exact AOp_buildRow zs _ g1 g3 g4 (by rw [List.length_map]; exact h1) g6 g7 h2 g5 h4
  · exact h.elim
theorem AOp_buildRowAt {t e n sz : Nat} {parts : Array (Nat × Operand)} (kp : Nat) (hkp : st.heap[kp]? = some .dead) (zs : List Value) (vs : List AV) (ht : SliceT P t e) (hs : SzOf P e sz) (hz : ZeroOf P e zs) (hn : n = vs.length)
    (hp : parts.toList.map (fun p => (p.1, st.opd p.2)) = idxL 0 vs) (hc : ∀ v, v ∈ vs → v.cells.length = sz ∧ (v.isCell || v.isAgg) = true) (hsmall : n * sz ≤ 16777216) (hz0 : zs.length = sz) (hpos : 0 < sz)
    (k : K (.sl (.own kp) vs) (st.heap.set kp (.tok e sz n))) : AOp P ro ⟨dst, .buildSlice t n parts, ty, pos, after, guard⟩ K st := by
  have hu : Uni sz vs := fun v hv => (hc v hv).1
  refine AOp_buildSliceAt kp hkp zs vs ht hs hz hn _ hp ?_ hsmall hz0 hpos (by rw [flat_length hu, hn]) k
  have := afill_row sz vs 0 [] ((List.range (n * sz)).map fun i => (zs.map ofVal).getD (i % zs.length) .junk) (by simp) (by simp [hn]) hc
  simpa using this
def bsliceG (kp : Nat) (k : TK) (n : Nat) (parts : List (Nat × AV)) (h : List AObj) (K : AV → List AObj → Prop) : Prop := match k, n, parts with
  | .slice e (some sz), n + 1, ps => n + 1 = ps.length ∧ (n + 1) * sz ≤ 16777216 ∧ rowOk sz 0 ps ∧ 0 < sz ∧ h[kp]? = some .dead ∧ K (.sl (.own kp) (ps.map (·.2))) (h.set kp (.tok e sz (n + 1)))
  | _, _, _ => False
theorem bsliceG_sound (kp : Nat) {t n : Nat} {parts : Array (Nat × Operand)} (h : bsliceG kp (kdOf (tInfo P t)) n (parts.toList.map fun p => (p.1, st.opd p.2)) st.heap K) : AOp P ro ⟨dst, .buildSlice t n parts, ty, pos, after, guard⟩ K st := by
  unfold bsliceG at h
  split at h
  · rename_i n e sz hk
    obtain ⟨h1, h2, h3, h5, h6, h4⟩ := h
    obtain ⟨i, hi, hk⟩ := kdOf_some hk (by simp)
    obtain ⟨g1, g2⟩ := tI_slice hi hk
    obtain ⟨g3, zs, g4, g5⟩ := elemSz_spec g2.symm
    obtain ⟨g6, g7⟩ := rowOk_spec h3
    exact AOp_buildRowAt kp h6 zs _ g1 g3 g4 (by rw [List.length_map]; exact h1) g6 g7 h2 g5 h5 h4
  · exact h.elim
def optI (o : Option AV) (d : Nat) (k : Nat → Prop) : Prop := match o with
  | none => k d
  | some (.int _ n) => 0 ≤ n ∧ k n.toNat
  | _ => False
theorem optI_spec {o : Option Operand} {d : Nat} {k : Nat → Prop} (h : optI (o.map st.opd) d k) : ∃ n, OptInt st o n d ∧ k n := by
  cases o with
  | none => exact ⟨d, .inl ⟨rfl, rfl⟩, h⟩
  | some x =>
    simp only [Option.map_some] at h
    unfold optI at h
    split at h
    · rename_i hq; cases hq
    · rename_i kd n hq
      injection hq with hq
      refine ⟨n.toNat, .inr ⟨x, kd, rfl, ?_⟩, h.2⟩
      rw [hq, Int.toNat_of_nonneg h.1]
    · exact h.elim
def sliceS (s : List UInt8) (h : List AObj) (K : AV → List AObj → Prop) (l u : Nat) : Prop := l ≤ u ∧ u ≤ s.length ∧ K (.str ((s.drop l).take (u - l))) h
def sliceR (sz : Nat) (xs : List AV) (h : List AObj) (K : AV → List AObj → Prop) (l u : Nat) : Prop := Uni sz xs ∧ l ≤ u ∧ u ≤ xs.length ∧ K (.sl .none ((xs.drop l).take (u - l))) h
def sliceV (k : TK) (a : AV) (lo hi : Option AV) (h : List AObj) (K : AV → List AObj → Prop) (F : Prop) : Prop := match k, a with
  | .str, .str s => optI lo 0 fun l => optI hi s.length fun u => sliceS s h K l u
  | .slice _ (some sz), .sl _ xs => optI lo 0 fun l => optI hi xs.length fun u => sliceR sz xs h K l u
  | _, _ => F
theorem sliceV_sound {t : Nat} {x : Operand} {lo hi : Option Operand} (h : sliceV (kdOf (tInfo P t)) (st.opd x) (lo.map st.opd) (hi.map st.opd) st.heap K (AOp P ro ⟨dst, .slice t x lo hi none, ty, pos, after, guard⟩ K st)) :
    AOp P ro ⟨dst, .slice t x lo hi none, ty, pos, after, guard⟩ K st := by
  unfold sliceV at h
  split at h
  · rename_i s hk hx
    obtain ⟨i, hi, hk⟩ := kdOf_some hk (by simp)
    obtain ⟨l, g1, h⟩ := optI_spec h
    obtain ⟨u, g2, h1, h2, h3⟩ := optI_spec h
    exact AOp_slice_str _ _ _ hx (tI_str hi hk) g1 g2 h1 h2 h3
  · rename_i e sz tk xs hk hx
    obtain ⟨i, hi, hk⟩ := kdOf_some hk (by simp)
    obtain ⟨q1, q2⟩ := tI_slice hi hk
    obtain ⟨l, g1, h⟩ := optI_spec h
    obtain ⟨u, g2, h0, h1, h2, h3⟩ := optI_spec h
    exact AOp_slice_sl _ _ _ _ hx q1 (elemSz_spec q2.symm).1 h0 g1 g2 h1 h2 h3
  · exact h
def convV (k k' : TK) (a : AV) (h : List AObj) (K : AV → List AObj → Prop) (F : Prop) : Prop := match k, k', a with
  | .int kd, .int kd', .int kd0 n => kd0 = kd ∧ inR kd' n ∧ K (.int kd' n) h
  | _, _, _ => F
theorem convV_sound {t t' : Nat} {x : Operand} (h : convV (kdOf (tInfo P t)) (kdOf (tInfo P t')) (st.opd x) st.heap K (AOp P ro ⟨dst, .convert t t' x, ty, pos, after, guard⟩ K st)) : AOp P ro ⟨dst, .convert t t' x, ty, pos, after, guard⟩ K st := by
  unfold convV at h
  split at h
  · rename_i kd kd' kd0 n hk hk' hx
    obtain ⟨rfl, h1, h2⟩ := h
    obtain ⟨i, hi, hk⟩ := kdOf_some hk (by simp)
    obtain ⟨i', hi', hk'⟩ := kdOf_some hk' (by simp)
    refine AOp_convert_int _ _ _ hx (tI_int hi hk) (tI_int hi' hk') ?_
    rw [inR_wrap h1]; exact h2
  · exact h
def someV (c : Option AV) (h : List AObj) (K : AV → List AObj → Prop) : Prop := match c with
  | some v => K v h
  | none => False
def extrV (a : AV) (i : Nat) (h : List AObj) (K : AV → List AObj → Prop) : Prop := match a with
  | .tup cs => someV cs[i]? h K
  | _ => False
theorem extrV_sound {x : Operand} {i : Nat} (h : extrV (st.opd x) i st.heap K) : AOp P ro ⟨dst, .extract x i, ty, pos, after, guard⟩ K st := by
  unfold extrV at h
  split at h
  · rename_i cs hx
    unfold someV at h
    split at h
    · rename_i v hv; exact AOp_extract _ _ hx hv h
    · exact h.elim
  · exact h.elim
def allocV (i : Option TI) (h : List AObj) (K : AV → List AObj → Prop) : Prop := match i with
  | some ⟨_, _, some zs, _⟩ => okCells zs ∧ K (.ptr h.length 0) (h ++ [.cells zs])
  | _ => False
theorem allocV_sound {t : Nat} (h : allocV (tInfo P t) st.heap K) : AOp P ro ⟨dst, .alloc t, ty, pos, after, guard⟩ K st := by
  unfold allocV at h
  split at h
  · rename_i zs k hi
    obtain ⟨l, hz, rfl⟩ := tI_zs hi rfl
    exact AOp_alloc _ hz (fun c hc => okCells_all h.1 _ (List.mem_map_of_mem hc)) h.2
  · exact h.elim
def pickV (c a b : AV) (h : List AObj) (K : AV → List AObj → Prop) : Prop := match c with
  | .bool c => K (if c then a else b) h
  | _ => False
theorem pickV_sound {c x y : Operand} (h : pickV (st.opd c) (st.opd x) (st.opd y) st.heap K) : AOp P ro ⟨dst, .pick c x y, ty, pos, after, guard⟩ K st := by
  unfold pickV at h
  split at h
  · rename_i b hc; exact AOp_pick _ hc h
  · exact h.elim
def lenV (k : TK) (a : AV) (h : List AObj) (K : AV → List AObj → Prop) (F : Prop) : Prop := match k, a with
  | .slice _ _, .sl _ xs => K (.int .i64 xs.length) h
  | .slice _ _, .arr _ _ n => K (.int .i64 n) h
  | .slice _ _, .gr _ n => K (.int .i64 n) h
  | .str, .str s => K (.int .i64 s.length) h
  | _, _ => F
theorem lenV_sound {t : Nat} {x : Operand} (h : lenV (kdOf (tInfo P t)) (st.opd x) st.heap K (AOp P ro ⟨dst, .call { callee := .builtin .len, args := #[x], argTypes := #[t] }, ty, pos, after, guard⟩ K st)) :
    AOp P ro ⟨dst, .call { callee := .builtin .len, args := #[x], argTypes := #[t] }, ty, pos, after, guard⟩ K st := by
  unfold lenV at h
  split at h
  · rename_i e s tk xs hk hx
    obtain ⟨i, hi, hk⟩ := kdOf_some hk (by simp)
    exact AOp_len_sl _ _ _ hx (tI_slice hi hk).1 h
  · rename_i e s id off n hk hx
    obtain ⟨i, hi, hk⟩ := kdOf_some hk (by simp)
    exact AOp_len_arr _ _ _ _ hx (tI_slice hi hk).1 h
  · rename_i e s id n hk hx
    obtain ⟨i, hi, hk⟩ := kdOf_some hk (by simp)
    exact AOp_len_gr _ _ _ hx (tI_slice hi hk).1 h
  · rename_i s hk hx
    obtain ⟨i, hi, hk⟩ := kdOf_some hk (by simp)
    exact AOp_len_str _ hx (tI_str hi hk) h
  · exact h
def mxV (mx : Bool) (a b : AV) (h : List AObj) (K : AV → List AObj → Prop) (F : Prop) : Prop := match a, b with
  | .int k n, .int k' m => k' = k ∧ K (.int k (if mx then max n m else min n m)) h
  | _, _ => F
theorem maxV_sound {ts : Array TypeId} {x y : Operand} (h : mxV true (st.opd x) (st.opd y) st.heap K (AOp P ro ⟨dst, .call { callee := .builtin .max, args := #[x, y], argTypes := ts }, ty, pos, after, guard⟩ K st)) :
    AOp P ro ⟨dst, .call { callee := .builtin .max, args := #[x, y], argTypes := ts }, ty, pos, after, guard⟩ K st := by
  unfold mxV at h
  split at h
  · rename_i k n k' m hx hy
    obtain ⟨rfl, h⟩ := h
    exact AOp_max _ _ _ hx hy h
  · exact h
theorem minV_sound {ts : Array TypeId} {x y : Operand} (h : mxV false (st.opd x) (st.opd y) st.heap K (AOp P ro ⟨dst, .call { callee := .builtin .min, args := #[x, y], argTypes := ts }, ty, pos, after, guard⟩ K st)) :
    AOp P ro ⟨dst, .call { callee := .builtin .min, args := #[x, y], argTypes := ts }, ty, pos, after, guard⟩ K st := by
  unfold mxV at h
  split at h
  · rename_i k n k' m hx hy
    obtain ⟨rfl, h⟩ := h
    exact AOp_min _ _ _ hx hy h
  · exact h
def callB (b : Bool) (P : Program) (g : Nat) (args : List AV) (h : List AObj) (K : AV → List AObj → Prop) (F : Prop) : Prop := match b with
  | true => ACall P g args h K
  | false => F
def callV (P : Program) (f : AV) (args : List AV) (h : List AObj) (K : AV → List AObj → Prop) (F : Prop) : Prop := match f with
  | .fn g caps => callB (callOk P g) P g (args ++ caps) h K F
  | .yld id => AYield P id args h K
  | _ => F
theorem callV_sound {f : Operand} {args : Array Operand} {ats : Array TypeId} (h : callV P (st.opd f) (args.toList.map st.opd) st.heap K (AOp P ro ⟨dst, .call { callee := .value f, args := args, argTypes := ats }, ty, pos, after, guard⟩ K st)) :
    AOp P ro ⟨dst, .call { callee := .value f, args := args, argTypes := ats }, ty, pos, after, guard⟩ K st := by
  unfold callV at h
  split at h
  · rename_i g caps hf
    unfold callB at h
    split at h
    · rename_i hok; exact AOp_call _ _ _ hf rfl hok h
    · exact h
  · rename_i id hf; exact AOp_yield _ _ hf rfl h
  · exact h
def wOp (P : Program) (ro : Option Nat) (o : Oper) (K : AV → List AObj → Prop) (st : ASt) : Prop := match o with
  | ⟨_, .move x, _, _, _, _⟩ => K (st.opd x) st.heap
  | ⟨_, .assign x, _, _, _, _⟩ => K (st.opd x) st.heap
  | ⟨_, .pick c x y, _, _, _, _⟩ => pickV (st.opd c) (st.opd x) (st.opd y) st.heap K
  | ⟨_, .alloc t, _, _, _, _⟩ => allocV (tInfo P t) st.heap K
  | ⟨_, .box _ x, _, _, _, _⟩ => okV (st.opd x) ∧ K (.ptr st.heap.length 0) (st.heap ++ [.cells (st.opd x).cells])
  | ⟨_, .build t ps, _, _, _, _⟩ => buildV (tInfo P t) (ps.toList.map fun p => (p.1, st.opd p.2)) st.heap K
  | ⟨_, .buildSlice t n ps, _, _, _, _⟩ => bsliceV (kdOf (tInfo P t)) n (ps.toList.map fun p => (p.1, st.opd p.2)) st.heap K
  | ⟨_, .load t x, _, _, _, _⟩ => loadV (tInfo P t) (st.opd x) st.heap K
  | ⟨_, .store t x y, _, _, _, _⟩ => storeV (tInfo P t) (st.opd x) (st.opd y) st.heap K
  | ⟨d, .binOp op t x y t', ty, p, a, g⟩ => binV op (kdOf (tInfo P t)) (st.opd x) (st.opd y) st.heap K (AOp P ro ⟨d, .binOp op t x y t', ty, p, a, g⟩ K st)
  | ⟨d, .unOp op t x, ty, p, a, g⟩ => unV op (st.opd x) st.heap K (AOp P ro ⟨d, .unOp op t x, ty, p, a, g⟩ K st)
  | ⟨d, .convert t t' x, ty, p, a, g⟩ => convV (kdOf (tInfo P t)) (kdOf (tInfo P t')) (st.opd x) st.heap K (AOp P ro ⟨d, .convert t t' x, ty, p, a, g⟩ K st)
  | ⟨_, .makeFunc (.func g) ⟨[]⟩ caps, _, _, _, _⟩ => K (.fn g (caps.toList.map st.opd)) st.heap
  | ⟨_, .makeMap _ none, _, _, _, _⟩ => K (.map st.heap.length) (st.heap ++ [.map 0 []])
  | ⟨d, .slice t x lo hi none, ty, p, a, g⟩ => sliceV (kdOf (tInfo P t)) (st.opd x) (lo.map st.opd) (hi.map st.opd) st.heap K (AOp P ro ⟨d, .slice t x lo hi none, ty, p, a, g⟩ K st)
  | ⟨_, .fieldAddr t x k, _, _, _, _⟩ => faddrF (nthF (tInfo P t) k) (st.opd x) st.heap K
  | ⟨_, .field t x k, _, _, _, _⟩ => fieldF (nthF (tInfo P t) k) (st.opd x) st.heap K
  | ⟨_, .indexAddr t x y, _, _, _, _⟩ => iaddrT (kdOf (tInfo P t)) (st.opd x) (st.opd y) st.heap K
  | ⟨_, .index t x y, _, _, _, _⟩ => indexT (tInfo P) (kdOf (tInfo P t)) (st.opd x) (st.opd y) st.heap K
  | ⟨_, .nilCheck x, _, _, _, _⟩ => nilV (st.opd x) st.heap K
  | ⟨_, .extract x i, _, _, _, _⟩ => extrV (st.opd x) i st.heap K
  | ⟨d, .call ⟨.builtin .len, ⟨[x]⟩, ⟨[t]⟩⟩, ty, p, a, g⟩ => lenV (kdOf (tInfo P t)) (st.opd x) st.heap K (AOp P ro ⟨d, .call ⟨.builtin .len, ⟨[x]⟩, ⟨[t]⟩⟩, ty, p, a, g⟩ K st)
  | ⟨d, .call ⟨.builtin .max, ⟨[x, y]⟩, ts⟩, ty, p, a, g⟩ => mxV true (st.opd x) (st.opd y) st.heap K (AOp P ro ⟨d, .call ⟨.builtin .max, ⟨[x, y]⟩, ts⟩, ty, p, a, g⟩ K st)
  | ⟨d, .call ⟨.builtin .min, ⟨[x, y]⟩, ts⟩, ty, p, a, g⟩ => mxV false (st.opd x) (st.opd y) st.heap K (AOp P ro ⟨d, .call ⟨.builtin .min, ⟨[x, y]⟩, ts⟩, ty, p, a, g⟩ K st)
  | ⟨d, .call ⟨.value f, args, ts⟩, ty, p, a, g⟩ => callV P (st.opd f) (args.toList.map st.opd) st.heap K (AOp P ro ⟨d, .call ⟨.value f, args, ts⟩, ty, p, a, g⟩ K st)
  | o => AOp P ro o K st
theorem wOp_sound {o : Oper} (h : wOp P ro o K st) : AOp P ro o K st := by
  unfold wOp at h
  split at h
  · exact AOp_move h
  · exact AOp_assign h
  · exact pickV_sound h
  · exact allocV_sound h
  · obtain ⟨g1, g2⟩ := okV_spec h.1
    exact AOp_box _ _ rfl rfl g1 g2 h.2
  · exact buildV_sound h
  · exact bsliceV_sound h
  · exact loadV_sound h
  · exact storeV_sound h
  · exact binV_sound h
  · exact unV_sound h
  · exact convV_sound h
  · exact AOp_makeFunc h
  · exact AOp_makeMap h
  · exact sliceV_sound h
  · exact faddrF_sound h
  · exact fieldF_sound h
  · exact iaddrT_sound h
  · exact indexT_sound h
  · exact nilV_sound h
  · exact extrV_sound h
  · exact lenV_sound h
  · exact maxV_sound h
  · exact minV_sound h
  · exact callV_sound h
  · exact h
def gdL : List Oper → Nat → Option Nat
  | [], _ => none
  | o :: _, 0 => o.dst
  | _ :: os, j + 1 => gdL os j
theorem gdL_eq : ∀ (l : List Oper) (j : Nat), gdL l j = (l[j]?).bind (·.dst)
  | [], _ => by simp [gdL]
  | o :: _, 0 => by simp [gdL]
  | _ :: os, j + 1 => by simp [gdL, gdL_eq os j]
def putK (F : ASt → Prop) (dst : Option Nat) (s : List AV) (v : AV) (h : List AObj) : Prop := match dst with
  | some d => F ⟨s.set d v, h⟩
  | none => F ⟨s, h⟩
def gRun (lit want : Bool) (P : Program) (ro : Option Nat) (o : Oper) (F : ASt → Prop) (s : List AV) (h : List AObj) : Prop := match lit, want with
  | true, true => wOp P ro o (putK F o.dst s) ⟨s, h⟩
  | false, false => wOp P ro o (putK F o.dst s) ⟨s, h⟩
  | _, _ => putK F o.dst s (.lit undef) h
def gSplit (v : AV) (d : Nat) (want : Bool) (P : Program) (ro : Option Nat) (o : Oper) (F : ASt → Prop) (s : List AV) (h : List AObj) : Prop := match v with
  | .bool b => if b = true then gRun true want P ro o F (s.set d (.bool true)) h else gRun false want P ro o F (s.set d (.bool false)) h
  | .lit (.tuple _) => putK F o.dst s (.lit undef) h
  | _ => False
def gOn (j : Option Nat) (want : Bool) (P : Program) (ro : Option Nat) (o : Oper) (F : ASt → Prop) (s : List AV) (h : List AObj) : Prop := match j with
  | some d => gSplit (s.getD d (.lit undef)) d want P ro o F s h
  | none => False
def wOps (P : Program) (ro : Option Nat) (all : List Oper) : List Oper → (ASt → Prop) → ASt → Prop
  | [], Qn, st => Qn st
  | o :: rest, Qn, st => match o.guard with
    | none => wOp P ro o (putK (wOps P ro all rest Qn) o.dst st.slots) st
    | some (j, want) => gOn (gdL all j) want P ro o (wOps P ro all rest Qn) st.slots st.heap
theorem putK_eq {F : ASt → Prop} {d : Option Nat} {s : List AV} {v : AV} {h' : List AObj} : putK F d s v h' = F (({ slots := s, heap := h' } : ASt).put d v) := by cases d <;> rfl
theorem wOps_sound {ops : Array Oper} : ∀ {l : List Oper} {st : ASt}, wOps P ro ops.toList l (Q .normal) st → AOps P ro H0 ops Q l st
  | [], st, h => AOps_nil h
  | o :: rest, st, h => by
    have step : ∀ {s : List AV} {hp : List AObj}, AWant ops o ⟨s, hp⟩ = some true → wOp P ro o (putK (wOps P ro ops.toList rest (Q .normal)) o.dst s) ⟨s, hp⟩ → AOps P ro H0 ops Q (o :: rest) ⟨s, hp⟩ := by
      intro s hp hw hh
      refine AOps_cons hw ?_
      intro C a hg hH hs next Qc hn
      refine wOp_sound hh C a hg hH hs next Qc (fun C' x v h1 h2 h3 h4 => hn C' x v h1 h2 h3 ?_)
      rw [putK_eq] at h4
      exact wOps_sound h4
    have skip : ∀ {s : List AV} {hp : List AObj}, AWant ops o ⟨s, hp⟩ = some false → putK (wOps P ro ops.toList rest (Q .normal)) o.dst s (.lit undef) hp → AOps P ro H0 ops Q (o :: rest) ⟨s, hp⟩ := by
      intro s hp hw hh
      refine AOps_skip hw ?_
      rw [putK_eq] at hh
      exact wOps_sound hh
    unfold wOps at h
    split at h
    · rename_i hg
      exact step (by unfold AWant; rw [hg]) h
    · rename_i j want hg
      unfold gOn at h
      split at h
      · rename_i d hd
        rw [gdL_eq] at hd
        have hd' : (ops[j]?).bind (·.dst) = some d := by rw [← hd]; simp
        have run : ∀ (lit : Bool) (s : List AV) (hp : List AObj), s.getD d (.lit undef) = .bool lit → gRun lit want P ro o (wOps P ro ops.toList rest (Q .normal)) s hp → AOps P ro H0 ops Q (o :: rest) ⟨s, hp⟩ := by
          intro lit s hp hs hh
          have hw : AWant ops o ⟨s, hp⟩ = some (lit == want) := by unfold AWant; rw [hg]; simp only [hd', hs]
          cases lit <;> cases want <;> first | exact step hw hh | exact skip hw hh
        unfold gSplit at h
        split at h
        · rename_i b hb
          have hlt : d < st.slots.length := by
            rcases Nat.lt_or_ge d st.slots.length with h' | h'
            · exact h'
            · rw [List.getD_eq_getElem?_getD, List.getElem?_eq_none h'] at hb; cases hb
          refine AOps_split d b hb (fun hb' => ?_) (fun hb' => ?_)
          · subst hb'
            rw [if_pos rfl] at h
            exact run true _ _ (by simp [List.getD, hlt]) h
          · subst hb'
            rw [if_neg (by simp)] at h
            exact run false _ _ (by simp [List.getD, hlt]) h
        · rename_i vs hb
          refine skip (s := st.slots) (hp := st.heap) ?_ h
          unfold AWant; rw [hg]; simp only [hd', hb]
        · exact h.elim
      · exact h.elim
theorem wOps_app {ops : Array Oper} {F : ASt → Prop} {tl : List Oper} (hF : ∀ st, F st → AOps P ro H0 ops Q tl st) : ∀ {l : List Oper} {st : ASt}, wOps P ro ops.toList l F st → AOps P ro H0 ops Q (l ++ tl) st
  | [], st, h => hF st h
  | o :: rest, st, h => by
    have step : ∀ {s : List AV} {hp : List AObj}, AWant ops o ⟨s, hp⟩ = some true → wOp P ro o (putK (wOps P ro ops.toList rest F) o.dst s) ⟨s, hp⟩ → AOps P ro H0 ops Q (o :: (rest ++ tl)) ⟨s, hp⟩ := by
      intro s hp hw hh
      refine AOps_cons hw ?_
      intro C a hg hH hs next Qc hn
      refine wOp_sound hh C a hg hH hs next Qc (fun C' x v h1 h2 h3 h4 => hn C' x v h1 h2 h3 ?_)
      rw [putK_eq] at h4
      exact wOps_app hF h4
    have skip : ∀ {s : List AV} {hp : List AObj}, AWant ops o ⟨s, hp⟩ = some false → putK (wOps P ro ops.toList rest F) o.dst s (.lit undef) hp → AOps P ro H0 ops Q (o :: (rest ++ tl)) ⟨s, hp⟩ := by
      intro s hp hw hh
      refine AOps_skip hw ?_
      rw [putK_eq] at hh
      exact wOps_app hF hh
    unfold wOps at h
    split at h
    · rename_i hg
      exact step (by unfold AWant; rw [hg]) h
    · rename_i j want hg
      unfold gOn at h
      split at h
      · rename_i d hd
        rw [gdL_eq] at hd
        have hd' : (ops[j]?).bind (·.dst) = some d := by rw [← hd]; simp
        have run : ∀ (lit : Bool) (s : List AV) (hp : List AObj), s.getD d (.lit undef) = .bool lit → gRun lit want P ro o (wOps P ro ops.toList rest F) s hp → AOps P ro H0 ops Q (o :: (rest ++ tl)) ⟨s, hp⟩ := by
          intro lit s hp hs hh
          have hw : AWant ops o ⟨s, hp⟩ = some (lit == want) := by unfold AWant; rw [hg]; simp only [hd', hs]
          cases lit <;> cases want <;> first | exact step hw hh | exact skip hw hh
        unfold gSplit at h
        split at h
        · rename_i b hb
          have hlt : d < st.slots.length := by
            rcases Nat.lt_or_ge d st.slots.length with h' | h'
            · exact h'
            · rw [List.getD_eq_getElem?_getD, List.getElem?_eq_none h'] at hb; cases hb
          refine AOps_split d b hb (fun hb' => ?_) (fun hb' => ?_)
          · subst hb'
            rw [if_pos rfl] at h
            exact run true _ _ (by simp [List.getD, hlt]) h
          · subst hb'
            rw [if_neg (by simp)] at h
            exact run false _ _ (by simp [List.getD, hlt]) h
        · rename_i vs hb
          refine skip (s := st.slots) (hp := st.heap) ?_ h
          unfold AWant; rw [hg]; simp only [hd', hb]
        · exact h.elim
      · exact h.elim
theorem AW_regionAt {id : Nat} (l pre : List Oper) (o : Oper) (rest : List Oper) (hl : l = pre ++ o :: rest) (hg : o.guard = none)
    (h : wOps P ro l pre (fun st' => AOp P ro o (putK (wOps P ro l rest (Q .normal)) o.dst st'.slots) st') st) : AW P ro H0 (.region id l.toArray false) Q st := by
  refine AW_region ?_
  have hl' : l.toArray.toList = pre ++ o :: rest := by rw [← hl]
  rw [hl']
  refine wOps_app (ops := l.toArray) (F := fun st' => AOp P ro o (putK (wOps P ro l rest (Q .normal)) o.dst st'.slots) st') (fun st' hh => ?_) (by simpa using h)
  refine AOps_cons (by unfold AWant; rw [hg]) ?_
  intro C a hg' hH hs next Qc hn
  refine hh C a hg' hH hs next Qc (fun C' x v h1 h2 h3 h4 => hn C' x v h1 h2 h3 ?_)
  rw [putK_eq] at h4
  exact wOps_sound (ops := l.toArray) (by simpa using h4)
def condV (v : AV) (A B : Prop) : Prop := match v with
  | .bool b => if b = true then A else B
  | _ => False
def W (P : Program) (ro : Option Nat) (H0 : List AObj) : Code → (Exit → ASt → Prop) → ASt → Prop
  | .skip, Q, st => Q .normal st
  | .ret, Q, st => Q .ret st
  | .exit i, Q, st => Q (.exit i) st
  | .seq x y, Q, st => W P ro H0 x (thenK (W P ro H0 y Q) Q) st
  | .cond c x y, Q, st => condV (st.opd c) (W P ro H0 x Q st) (W P ro H0 y Q st)
  | .block i c, Q, st => W P ro H0 c (blockK i Q) st
  | .region _ ops false, Q, st => wOps P ro ops.toList ops.toList (Q .normal) st
  | c, Q, st => AW P ro H0 c Q st
theorem thenK_imp {K K' : ASt → Prop} (h : ∀ st, K st → K' st) : ∀ e st, thenK K Q e st → thenK K' Q e st := by
  intro e st hh
  cases e <;> first | exact h st hh | exact hh
theorem AW_of_W : ∀ {c : Code} {Q : Exit → ASt → Prop} {st : ASt}, W P ro H0 c Q st → AW P ro H0 c Q st
  | .skip, _, _, h => AW_skip h
  | .ret, _, _, h => AW_ret h
  | .exit _, _, _, h => AW_exit h
  | .seq x y, _, _, h => AW_seq (AW_mono (AW_of_W (c := x) h) (thenK_imp fun _ hh => AW_of_W (c := y) hh))
  | .cond c x y, Q, st, h => by
    unfold W condV at h
    split at h
    · rename_i b hc
      refine AW_cond hc (fun hb => ?_) (fun hb => ?_)
      · subst hb; rw [if_pos rfl] at h; exact AW_of_W (c := x) h
      · subst hb; rw [if_neg (by simp)] at h; exact AW_of_W (c := y) h
    · exact h.elim
  | .block i c, _, _, h => AW_block (AW_of_W (c := c) h)
  | .region _ ops false, _, _, h => AW_region (wOps_sound h)
  | .region _ _ true, _, _, h => h
  | .loop _, _, _, h => h
  | .rangeFunc .., _, _, h => h
  | .goto _, _, _, h => h
  | .label _, _, _, h => h
  | .scope _, _, _, h => h
  | .refuse _, _, _, h => h
end
end Ab
namespace Ab
open Go
variable {P : Program} {ro : Option Nat} {H0 : List AObj} {Q : Exit → ASt → Prop} {st : ASt}
def dropC (o : Nat) (c : Option AObj) : Option (List AV) := match c with
  | some (.cells vs) => some (vs.drop o)
  | _ => none
def cellAt (a : AV) (h : List AObj) : Option (List AV) := match a with
  | .ptr id o => dropC o h[id]?
  | _ => none
def aggV (b : Bool) (cs : List AV) : AV := match b, cs with
  | true, cs => .agg cs
  | false, [v] => v
  | false, _ => .junk
def aggP (b : Bool) (cs : List AV) : Prop := match b, cs with
  | true, _ => True
  | false, [_] => True
  | false, _ => False
def cellVal (i : Option TI) (c : Option (List AV)) : AV := match i, c with
  | some i, some vs => aggV i.agg (vs.take i.sz)
  | _, _ => .junk
def nz : Nat → Prop
  | 0 => False
  | _ + 1 => True
def cellPre (i : Option TI) (c : Option (List AV)) : Prop := match i, c with
  | some i, some vs => leL i.sz vs ∧ aggP i.agg (vs.take i.sz) ∧ nz i.sz
  | _, _ => False
def resVal (P : Program) (st : ASt) (x : ResultVar) : AV := match x with
  | .tmp t => st.opd (.tmp t)
  | .cell a t => cellVal (tInfo P t) (cellAt (st.opd (.tmp a)) st.heap)
def resPre (P : Program) (st : ASt) (x : ResultVar) : Prop := match x with
  | .tmp _ => True
  | .cell a t => cellPre (tInfo P t) (cellAt (st.opd (.tmp a)) st.heap)
def resVals (P : Program) (st : ASt) : List ResultVar → List AV
  | [] => []
  | x :: xs => resVal P st x :: resVals P st xs
def resPres (P : Program) (st : ASt) : List ResultVar → Prop
  | [] => True
  | x :: xs => resPre P st x ∧ resPres P st xs
def finR (P : Program) (rs : List ResultVar) (st : ASt) (k : AV → Prop) : Prop := match rs with
  | [] => k (.tup [])
  | [x] => resPre P st x ∧ k (resVal P st x)
  | x :: y :: l => resPres P st (x :: y :: l) ∧ k (.tup (resVals P st (x :: y :: l)))
def finE (H : List AObj) (m : Nat) (R : AV → List AObj → Prop) (h : List AObj) (r : AV) : Prop := OutOk H h m ∧ Scoped m (strip m r) ∧ R (strip m r) (h.take m)
def finW (P : Program) (H : List AObj) (m : Nat) (R : AV → List AObj → Prop) (rs : List ResultVar) : Exit → ASt → Prop
  | .normal, st => finR P rs st (finE H m R st.heap)
  | .ret, st => finR P rs st (finE H m R st.heap)
  | _, _ => False
theorem resPre_spec {x : ResultVar} (h : resPre P st x) : ResV P st x (resVal P st x) := by
  cases x with
  | tmp t => rfl
  | cell a t =>
    simp only [resPre, resVal] at h ⊢
    unfold cellPre at h
    split at h
    · rename_i i vs hi hc
      obtain ⟨h1, h2, h0⟩ := h
      have h0 : i.sz ≠ 0 := fun e => by rw [e] at h0; exact h0
      unfold cellAt at hc
      split at hc
      · rename_i id o hx
        unfold dropC at hc
        split at hc
        · rename_i us hh
          injection hc with hc
          subst hc
          have hl := leL_le h1
          rw [List.length_drop] at hl
          refine ⟨i.sz, id, o, us, hx, hh, tI_sz hi, by omega, ?_⟩
          have ha := tI_agg hi
          have hcv : cellVal (tInfo P t) (cellAt (st.opd (.tmp a)) st.heap) = aggV i.agg ((us.drop o).take i.sz) := by
            rw [hi, hx]; simp only [cellAt, hh, dropC, cellVal]
          rw [hcv]
          unfold aggP at h2
          split at h2
          · rename_i hag; rw [hag] at ha; exact .inl ⟨ha, by rw [hag]; rfl⟩
          · rename_i v hag he
            rw [hag] at ha
            obtain ⟨g1, g2⟩ := take_one he
            exact .inr ⟨ha, g1, by rw [hag, he]; exact g2⟩
          · exact h2.elim
        · cases hc
      · cases hc
    · exact h.elim
theorem resPres_spec : ∀ {l : List ResultVar}, resPres P st l → ResVs P st l (resVals P st l)
  | [], _ => trivial
  | _ :: _, h => ⟨resPre_spec h.1, resPres_spec h.2⟩
theorem ACall_W {f : Nat} {fn : Func} {c : Code} {args : List AV} {H : List AObj} {R : AV → List AObj → Prop} (m n : Nat) (rs : List ResultVar) (hf : P.funcs[f]? = some fn) (hb : fn.body = some c) (hn : fn.ntmps - args.length = n) (hr : fn.results = rs.toArray)
    (h : W P none H c (finW P H m R rs) ⟨args ++ List.replicate n (.lit undef), H⟩) : ACall P f args H R := by
  subst hn
  refine ACall_intro m hf hb (AW_mono (AW_of_W h) ?_)
  intro e st' hh
  have key : finR P rs st' (finE H m R st'.heap) → ∃ r, ResOk P fn st' r ∧ OutOk H st'.heap m ∧ Scoped m (strip m r) ∧ R (strip m r) (st'.heap.take m) := by
    intro hh
    cases rs with
    | nil => exact ⟨.tup [], by unfold ResOk; rw [hr], hh⟩
    | cons x rs =>
      cases rs with
      | nil =>
        refine ⟨_, ?_, hh.2⟩
        have := resPre_spec hh.1
        unfold ResOk; rw [hr]
        cases x with
        | tmp t => rfl
        | cell a t => exact this
      | cons y l =>
        refine ⟨_, ?_, hh.2⟩
        unfold ResOk; rw [hr]
        have h2 := resPres_spec hh.1
        cases x <;> exact ⟨_, rfl, h2⟩
  cases e <;> first
    | exact ⟨.inl rfl, key hh⟩
    | exact ⟨.inr rfl, key hh⟩
    | exact hh.elim
theorem ACall.to {f : Nat} {args : List AV} {H H1 : List AObj} {v : AV} {K : AV → List AObj → Prop} (h : ACall P f args H fun r H' => r = v ∧ H' = H1) (k : K v H1) : ACall P f args H K := h.mono (by rintro r H' ⟨rfl, rfl⟩; exact k)
mutual
def fgtW : AV → AV → Prop
  | _, .junk => True
  | .sl _ xs, .sl .none ys => xs = ys
  | .agg a, .agg b => fgtL a b
  | .tup a, .tup b => fgtL a b
  | v, v' => v = v'
def fgtL : List AV → List AV → Prop
  | [], [] => True
  | v :: l, v' :: l' => fgtW v v' ∧ fgtL l l'
  | _, _ => False
end
theorem forget_agg {a b : List AV} (hl : a.length = b.length) (h : ∀ i (h : i < a.length) (h' : i < b.length), Forget a[i] b[i]) : Forget (.agg a) (.agg b) := by
  intro C x hx
  cases hx with
  | agg _ vs hsz hrel => exact .agg b vs (hsz.trans hl) (fun i hi => h i (hl ▸ hi) hi C _ (hrel i (hl ▸ hi)))
theorem forget_tup {a b : List AV} (hl : a.length = b.length) (h : ∀ i (h : i < a.length) (h' : i < b.length), Forget a[i] b[i]) : Forget (.tup a) (.tup b) := by
  intro C x hx
  cases hx with
  | tup _ vs hsz hrel => exact .tup b vs (hsz.trans hl) (fun i hi => h i (hl ▸ hi) hi C _ (hrel i (hl ▸ hi)))
mutual
theorem fgtW_spec : ∀ (v v' : AV), fgtW v v' → Forget v v'
  | v, v', h => by
    unfold fgtW at h
    split at h
    · exact fun C x _ => .junk x
    · subst h; exact Forget.tok _ _
    · rename_i a b
      obtain ⟨h1, h2⟩ := fgtL_spec a b h
      exact forget_agg h1 h2
    · rename_i a b
      obtain ⟨h1, h2⟩ := fgtL_spec a b h
      exact forget_tup h1 h2
    · subst h; exact Forget.refl _
theorem fgtL_spec : ∀ (l l' : List AV), fgtL l l' → l.length = l'.length ∧ ∀ i (h : i < l.length) (h' : i < l'.length), Forget l[i] l'[i]
  | [], [], _ => ⟨rfl, fun i h => absurd h (by simp)⟩
  | v :: l, v' :: l', h => by
    obtain ⟨h1, h2⟩ := fgtL_spec l l' h.2
    refine ⟨by simp [h1], ?_⟩
    intro i hi hi'
    cases i with
    | zero => exact fgtW_spec v v' h.1
    | succ i => exact h2 i (by simpa using hi) (by simpa using hi')
  | [], _ :: _, h => h.elim
  | _ :: _, [], h => h.elim
end
theorem fgtW_junk (v : AV) : fgtW v .junk = True := by cases v <;> rfl
theorem fgtW_sl (t : Tok) (xs ys : List AV) : fgtW (.sl t xs) (.sl .none ys) = (xs = ys) := rfl
theorem fgtW_agg (a b : List AV) : fgtW (.agg a) (.agg b) = fgtL a b := by rw [fgtW]
theorem fgtW_tup (a b : List AV) : fgtW (.tup a) (.tup b) = fgtL a b := by rw [fgtW]
theorem fgtW_int (k k' : IntKind) (n n' : Int) : fgtW (.int k n) (.int k' n') = (k = k' ∧ n = n') := by simp [fgtW]
theorem fgtW_bool (a b : Bool) : fgtW (.bool a) (.bool b) = (a = b) := by simp [fgtW]
theorem fgtW_str (a b : List UInt8) : fgtW (.str a) (.str b) = (a = b) := by simp [fgtW]
theorem fgtL_refl : ∀ l : List AV, (∀ v, v ∈ l → fgtW v v) → fgtL l l
  | [], _ => trivial
  | v :: l, h => ⟨h v (by simp), fgtL_refl l fun u hu => h u (by simp [hu])⟩
theorem fgtW_refl : ∀ v : AV, fgtW v v := by
  have key : ∀ n : Nat, ∀ v : AV, sizeOf v < n → fgtW v v := by
    intro n
    induction n with
    | zero => intro v h; omega
    | succ n ih =>
      intro v h
      cases v with
      | agg a => rw [fgtW_agg]; exact fgtL_refl a fun u hu => ih u (by have := List.sizeOf_lt_of_mem hu; simp at h; omega)
      | tup a => rw [fgtW_tup]; exact fgtL_refl a fun u hu => ih u (by have := List.sizeOf_lt_of_mem hu; simp at h; omega)
      | sl t xs => cases t <;> simp [fgtW]
      | _ => simp [fgtW]
  exact fun v => key _ v (Nat.lt_succ_self _)
theorem fgtW_self (v : AV) : fgtW v v = True := eq_true (fgtW_refl v)
theorem fgtW_gSl (k : Nat) (xs ys : List AV) : fgtW (gSl k xs) (.sl .none ys) = (xs = ys) := by cases xs <;> rfl
def slotsW (m : Nat) : List AV → List AV → Prop
  | [], [] => True
  | v :: l, v' :: l' => fgtW v v' ∧ Scoped m v' ∧ slotsW m l l'
  | _, _ => False
theorem slotsW_spec {m : Nat} : ∀ {l l' : List AV}, slotsW m l l' → SlotsOk m l l'
  | [], [], _ => .nil
  | _ :: _, _ :: _, ⟨h1, h2, h3⟩ => .forget h2 (fgtW_spec _ _ h1) (slotsW_spec h3)
  | [], _ :: _, h => h.elim
  | _ :: _, [], h => h.elim
def weakW (H0 : List AObj) (st st' : ASt) : Prop := st'.heap = st.heap.take st'.heap.length ∧ OutOk H0 st.heap st'.heap.length ∧ slotsW st'.heap.length st.slots st'.slots
theorem weakW_spec {st' : ASt} (h : weakW H0 st st') : Weakens H0 st st' := ⟨_, h.1, h.2.1, slotsW_spec h.2.2⟩
theorem weakW_mk (s s' : List AV) (h h' : List AObj) : weakW H0 ⟨s, h⟩ ⟨s', h'⟩ = (h' = h.take h'.length ∧ OutOk H0 h h'.length ∧ slotsW h'.length s s') := rfl
def scT (n : Nat) : Nat → List AObj → Prop
  | 0, _ => True
  | _ + 1, [] => False
  | j + 1, o :: L => OScoped n o ∧ scT n j L
theorem scT_spec {n : Nat} : ∀ {j : Nat} {L : List AObj}, scT n j L → j ≤ L.length ∧ ∀ o, o ∈ L.take j → OScoped n o
  | 0, _, _ => ⟨Nat.zero_le _, by simp⟩
  | _ + 1, [], h => h.elim
  | j + 1, o :: L, h => by
    obtain ⟨h1, h2⟩ := scT_spec h.2
    refine ⟨by simpa using h1, ?_⟩
    intro o' ho'
    rw [List.take_succ_cons, List.mem_cons] at ho'
    rcases ho' with rfl | ho'
    · exact h.1
    · exact h2 _ ho'
theorem outok_0 (H L : List AObj) : OutOk H (H ++ L) H.length = True := eq_true (outok_app 0 rfl (Nat.zero_le _) (by simp))
theorem outok_s (H : List AObj) : OutOk H H H.length = True := eq_true outok_self
theorem outok_j (H L : List AObj) (j : Nat) (h : scT (H.length + j) j L) : OutOk H (H ++ L) (H.length + j) = True := eq_true (outok_app j rfl (scT_spec h).1 (scT_spec h).2)
theorem osc_tok (n e sz len : Nat) : OScoped n (.tok e sz len) = True := (rfl)
theorem osc_dead (n : Nat) : OScoped n .dead = True := (rfl)
theorem osc_cells (n : Nat) (vs : List AV) : OScoped n (.cells vs) = ScopedL n vs := (rfl)
theorem scT_0 (n : Nat) (L : List AObj) : scT n 0 L = True := by cases L <;> rfl
theorem scT_s (n j : Nat) (o : AObj) (L : List AObj) : scT n (j + 1) (o :: L) = (OScoped n o ∧ scT n j L) := (rfl)
theorem osc_gTok (n e sz : Nat) (xs : List AV) : OScoped n (gTok e sz xs) = True := eq_true (oscoped_gTok _ _ _ _)
attribute [push_cast] osc_tok osc_dead osc_gTok osc_cells scT_0 scT_s
theorem ACall_introF {f : Nat} {fn : Func} {c : Code} {args : List AV} {H : List AObj} {R : AV → List AObj → Prop} (m : Nat) (hf : P.funcs[f]? = some fn) (hb : fn.body = some c)
    (h : AW P none H c (fun e st' => (e = .normal ∨ e = .ret) ∧ ∃ r v, ResOk P fn st' r ∧ Forget r v ∧ OutOk H st'.heap m ∧ Scoped m v ∧ R v (st'.heap.take m))
      { slots := args ++ List.replicate (fn.ntmps - args.length) (.lit undef), heap := H }) : ACall P f args H R := by
  intro C vs hg hH hsz hv
  refine ACall_of_AW (P := P) hf hb ?_ C vs hg hH hsz hv (R := R)
  refine AW_mono h ?_
  rintro e st' ⟨he, r, v', hr, hfg, ho, hsc, hR⟩
  have fin : ∀ C1 a, Good C1 → C1.H = st'.heap → SRel C1 st' a → ∃ v r C', (results fn a.tmps).run P C1.w = .ok v C1.w ∧ C'.w = C1.w ∧ Good C' ∧ (∀ C0, Ext C0 C1 → C0.H = H → Good C0 → Ext C0 C') ∧ VRel C' r v ∧ R r C'.H := by
    intro C1 a hg1 hH1 hs1
    obtain ⟨v, hrun, hrel⟩ := results_run hr hg1 hH1 hs1
    have ho' : OutOk C.H C1.H m := by rw [hH, hH1]; exact ho
    refine ⟨v, v', C1.take m, hrun, rfl, Good.take hg hg1 ho', fun C0 hx h0 _ => hx.take (by rw [h0]; exact ho.2.1), (hfg _ _ hrel).take hsc, ?_⟩
    show R v' (C1.H.take m)
    rw [hH1]; exact hR
  rcases he with rfl | rfl
  · exact fin
  · exact fin
def finG (H : List AObj) (m : Nat) (v : AV) (H1 h : List AObj) (r : AV) : Prop := OutOk H h m ∧ fgtW r v ∧ Scoped m v ∧ h.take m = H1
def finV (P : Program) (H : List AObj) (m : Nat) (v : AV) (H1 : List AObj) (rs : List ResultVar) : Exit → ASt → Prop
  | .normal, st => finR P rs st (finG H m v H1 st.heap)
  | .ret, st => finR P rs st (finG H m v H1 st.heap)
  | _, _ => False
theorem ACall_VA {f : Nat} {fn : Func} {c : Code} {args : List AV} {H H1 : List AObj} {v : AV} (m n : Nat) (rs : List ResultVar) (hf : P.funcs[f]? = some fn) (hb : fn.body = some c) (hn : fn.ntmps - args.length = n) (hr : fn.results = rs.toArray)
    (h : AW P none H c (finV P H m v H1 rs) ⟨args ++ List.replicate n (.lit undef), H⟩) : ACall P f args H (fun r H' => r = v ∧ H' = H1) := by
  subst hn
  refine ACall_introF m hf hb (AW_mono h ?_)
  intro e st' hh
  have key : finR P rs st' (finG H m v H1 st'.heap) → ∃ r v', ResOk P fn st' r ∧ Forget r v' ∧ OutOk H st'.heap m ∧ Scoped m v' ∧ v' = v ∧ st'.heap.take m = H1 := by
    intro hh
    have fin : ∀ r, ResOk P fn st' r → finG H m v H1 st'.heap r → ∃ r v', ResOk P fn st' r ∧ Forget r v' ∧ OutOk H st'.heap m ∧ Scoped m v' ∧ v' = v ∧ st'.heap.take m = H1 :=
      fun r h1 h2 => ⟨r, v, h1, fgtW_spec _ _ h2.2.1, h2.1, h2.2.2.1, rfl, h2.2.2.2⟩
    cases rs with
    | nil => exact fin (.tup []) (by unfold ResOk; rw [hr]) hh
    | cons x rs =>
      cases rs with
      | nil =>
        refine fin _ ?_ hh.2
        have := resPre_spec hh.1
        unfold ResOk; rw [hr]
        cases x with
        | tmp t => rfl
        | cell a t => exact this
      | cons y l =>
        refine fin _ ?_ hh.2
        unfold ResOk; rw [hr]
        have h2 := resPres_spec hh.1
        cases x <;> exact ⟨_, rfl, h2⟩
  cases e <;> first
    | exact ⟨.inl rfl, key hh⟩
    | exact ⟨.inr rfl, key hh⟩
    | exact hh.elim
theorem ACall_V {f : Nat} {fn : Func} {c : Code} {args : List AV} {H H1 : List AObj} {v : AV} (m n : Nat) (rs : List ResultVar) (hf : P.funcs[f]? = some fn) (hb : fn.body = some c) (hn : fn.ntmps - args.length = n) (hr : fn.results = rs.toArray)
    (h : W P none H c (finV P H m v H1 rs) ⟨args ++ List.replicate n (.lit undef), H⟩) : ACall P f args H (fun r H' => r = v ∧ H' = H1) := ACall_VA m n rs hf hb hn hr (AW_of_W h)
def loopW (H0 : List AObj) {α : Type} (mask : List Bool) (upd : α → List (Nat × AV)) (hp : α → List AObj) (st : ASt) (inv : α → Prop) (μ : α → Nat) (x : α) (Q : Exit → ASt → Prop) : Exit → ASt → Prop
  | .normal, st' => ∃ y, inv y ∧ μ y < μ x ∧ weakW H0 st' (mkS mask (upd y) (hp y) st)
  | e, st' => Q e st'
theorem loopW_n {α : Type} {mask : List Bool} {upd : α → List (Nat × AV)} {hp : α → List AObj} {st0 : ASt} {inv : α → Prop} {μ : α → Nat} {x : α} (y : α) (hi : inv y) (hm : μ y < μ x) (h : weakW H0 st (mkS mask (upd y) (hp y) st0)) :
    loopW H0 mask upd hp st0 inv μ x Q .normal st := ⟨y, hi, hm, h⟩
theorem AW_loopA {c : Code} {α : Type} (mask : List Bool) (upd : α → List (Nat × AV)) (hp : α → List AObj) (inv : α → Prop) (μ : α → Nat) (x0 : α) (hi : inv x0) (hw : weakW H0 st (mkS mask (upd x0) (hp x0) st))
    (round : ∀ x, inv x → AW P ro H0 c (loopW H0 mask upd hp st inv μ x Q) (mkS mask (upd x) (hp x) st)) : AW P ro H0 (.loop c) Q st := by
  refine AW_loopR mask upd hp inv μ x0 hi (weakW_spec hw) (fun x hx => AW_mono (round x hx) ?_)
  intro e st' h
  cases e with
  | normal => obtain ⟨y, h1, h2, h3⟩ := h; exact ⟨y, h1, weakW_spec h3, h2⟩
  | _ => exact h
theorem AW_loopW {c : Code} {α : Type} (mask : List Bool) (upd : α → List (Nat × AV)) (hp : α → List AObj) (inv : α → Prop) (μ : α → Nat) (x0 : α) (hi : inv x0) (hw : weakW H0 st (mkS mask (upd x0) (hp x0) st))
    (round : ∀ x, inv x → W P ro H0 c (loopW H0 mask upd hp st inv μ x Q) (mkS mask (upd x) (hp x) st)) : AW P ro H0 (.loop c) Q st :=
  AW_loopA mask upd hp inv μ x0 hi hw fun x hx => AW_of_W (round x hx)
def condP (c A B : Prop) : Prop := (c → A) ∧ (¬ c → B)
theorem cI {c A B : Prop} (ha : c → A) (hb : ¬ c → B) : condP c A B := ⟨ha, hb⟩
theorem condP_t (A B : Prop) : condP True A B = A := by simp [condP]
theorem condP_f (A B : Prop) : condP False A B = B := by simp [condP]
theorem condP_b (b : Bool) (A B : Prop) : condP (b = false) A B = condP (b = true) B A := by cases b <;> simp [condP]
theorem condP_n (c A B : Prop) : condP (¬ c) A B = condP c B A := by by_cases h : c <;> simp [condP, h]
def condV2 (v : AV) (A B : Prop) : Prop := condV v A B
def gSplit2 (v : AV) (d : Nat) (want : Bool) (P : Program) (ro : Option Nat) (o : Oper) (F : ASt → Prop) (s : List AV) (h : List AObj) : Prop := gSplit v d want P ro o F s h
def opAt : List Oper → Nat → Option Oper
  | [], _ => none
  | o :: _, 0 => some o
  | _ :: l, n + 1 => opAt l n
theorem opAt_eq : ∀ (l : List Oper) (i : Nat), opAt l i = l[i]?
  | [], _ => by simp [opAt]
  | _ :: _, 0 => by simp [opAt]
  | _ :: l, n + 1 => by simp [opAt, opAt_eq l n]
def dG (v : AV) (want : Bool) (A B : Prop) : Prop := match v, want with
  | .bool true, true => A
  | .bool false, false => A
  | .bool true, false => B
  | .bool false, true => B
  | .lit (.tuple _), _ => B
  | _, _ => False
def dGo (j : Option Nat) (want : Bool) (S : List AV) (A B : Prop) : Prop := match j with
  | some d => dG (S.getD d (.lit undef)) want A B
  | none => False
def dOp (P : Program) (ro : Option Nat) (all : List Oper) (o : Option Oper) (e : Bool) (S : List AV) (H : List AObj) (v : AV) (H2 : List AObj) : Prop := match o with
  | none => True
  | some o => match o.guard with
    | none => wOp P ro o (fun v' h' => v' = v ∧ h' = H2) ⟨S, H⟩
    | some (j, want) => dGo (gdL all j) want S (wOp P ro o (fun v' h' => v' = v ∧ h' = H2) ⟨S, H⟩) (v = .lit undef ∧ e = false)
theorem DOne_V {l : List Oper} {i : Nat} {e : Bool} {S : List AV} {H : List AObj} {v : AV} {H2 : List AObj} (h : dOp P ro l (opAt l i) e S H v H2) : DOne P ro l.toArray i e S H v H2 := by
  intro o ho
  have ho' : opAt l i = some o := by rw [opAt_eq]; simpa using ho
  rw [ho'] at h
  unfold dOp at h
  simp only at h
  split at h
  · rename_i hg
    exact .inl ⟨by unfold AWant; rw [hg], wOp_sound h⟩
  · rename_i j want hg
    unfold dGo at h
    split at h
    · rename_i d hd
      rw [gdL_eq] at hd
      have hd' : (l.toArray[j]?).bind (·.dst) = some d := by rw [← hd]; simp
      unfold dG at h
      split at h
      · rename_i hb; exact .inl ⟨by unfold AWant; rw [hg]; simp only [hd', hb]; rfl, wOp_sound h⟩
      · rename_i hb; exact .inl ⟨by unfold AWant; rw [hg]; simp only [hd', hb]; rfl, wOp_sound h⟩
      · rename_i hb; exact .inr ⟨by unfold AWant; rw [hg]; simp only [hd', hb]; rfl, h⟩
      · rename_i hb; exact .inr ⟨by unfold AWant; rw [hg]; simp only [hd', hb]; rfl, h⟩
      · rename_i hb; exact .inr ⟨by unfold AWant; rw [hg]; simp only [hd', hb], h⟩
      · exact h.elim
    · exact h.elim
theorem opAt_0 (o : Oper) (l : List Oper) : opAt (o :: l) 0 = some o := (rfl)
theorem opAt_s (o : Oper) (l : List Oper) (n : Nat) : opAt (o :: l) (n + 1) = opAt l n := (rfl)
theorem dOp_no (all : List Oper) (dst : Option Tmp) (op : Op) (ty : TypeId) (pos : String) (after : Array Edge) (e : Bool) (S : List AV) (H : List AObj) (v : AV) (H2 : List AObj) :
    dOp P ro all (some ⟨dst, op, ty, pos, after, none⟩) e S H v H2 = wOp P ro ⟨dst, op, ty, pos, after, none⟩ (fun v' h' => v' = v ∧ h' = H2) ⟨S, H⟩ := (rfl)
theorem dOp_if (all : List Oper) (dst : Option Tmp) (op : Op) (ty : TypeId) (pos : String) (after : Array Edge) (j : Nat) (want e : Bool) (S : List AV) (H : List AObj) (v : AV) (H2 : List AObj) :
    dOp P ro all (some ⟨dst, op, ty, pos, after, some (j, want)⟩) e S H v H2 = dGo (gdL all j) want S (wOp P ro ⟨dst, op, ty, pos, after, some (j, want)⟩ (fun v' h' => v' = v ∧ h' = H2) ⟨S, H⟩) (v = .lit undef ∧ e = false) := (rfl)
theorem dGo_s (d : Nat) (want : Bool) (S : List AV) (A B : Prop) : dGo (some d) want S A B = dG (S.getD d (.lit undef)) want A B := (rfl)
theorem dG_tt (A B : Prop) : dG (.bool true) true A B = A := (rfl)
theorem dG_ff (A B : Prop) : dG (.bool false) false A B = A := (rfl)
theorem dG_tf (A B : Prop) : dG (.bool true) false A B = B := (rfl)
theorem dG_ft (A B : Prop) : dG (.bool false) true A B = B := (rfl)
attribute [push_cast] opAt_0 opAt_s dOp_no dOp_if dGo_s dG_tt dG_ff dG_tf dG_ft
section rules
variable {s : List AV} {h : List AObj} {K : AV → List AObj → Prop} {F : ASt → Prop}
theorem W_skip : W P ro H0 .skip Q st = Q .normal st := (rfl)
theorem W_ret : W P ro H0 .ret Q st = Q .ret st := (rfl)
theorem W_exit (i : Nat) : W P ro H0 (.exit i) Q st = Q (.exit i) st := (rfl)
theorem W_seq (x y : Code) : W P ro H0 (.seq x y) Q st = W P ro H0 x (thenK (W P ro H0 y Q) Q) st := (rfl)
theorem W_cond (c : Operand) (x y : Code) : W P ro H0 (.cond c x y) Q st = condV (st.opd c) (W P ro H0 x Q st) (W P ro H0 y Q st) := (rfl)
theorem W_block (i : Nat) (c : Code) : W P ro H0 (.block i c) Q st = W P ro H0 c (blockK i Q) st := (rfl)
theorem W_region (i : Nat) (l : List Oper) : W P ro H0 (.region i l.toArray false) Q st = wOps P ro l l (Q .normal) st := (rfl)
theorem W_draw (i : Nat) (l : Array Oper) : W P ro H0 (.region i l true) Q st = AW P ro H0 (.region i l true) Q st := (rfl)
theorem W_loop (c : Code) : W P ro H0 (.loop c) Q st = AW P ro H0 (.loop c) Q st := (rfl)
theorem W_range (f : Operand) (ps : Array Tmp) (x y : Code) : W P ro H0 (.rangeFunc f ps x y) Q st = AW P ro H0 (.rangeFunc f ps x y) Q st := (rfl)
theorem thenK_n (K : ASt → Prop) : thenK K Q .normal st = K st := (rfl)
theorem thenK_r (K : ASt → Prop) : thenK K Q .ret st = Q .ret st := (rfl)
theorem thenK_e (K : ASt → Prop) (i : Nat) : thenK K Q (.exit i) st = Q (.exit i) st := (rfl)
theorem blockK_n (i : Nat) : blockK i Q .normal st = Q .normal st := (rfl)
theorem blockK_r (i : Nat) : blockK i Q .ret st = Q .ret st := (rfl)
theorem blockK_e (i j : Nat) : blockK i Q (.exit j) st = if j = i then Q .normal st else Q (.exit j) st := (rfl)
theorem condV_1 (v : AV) (A B : Prop) : condV v A B = condV2 v A B := (rfl)
theorem condV_t (A B : Prop) : condV2 (.bool true) A B = A := (rfl)
theorem condV_f (A B : Prop) : condV2 (.bool false) A B = B := (rfl)
theorem condV_b (b : Bool) (A B : Prop) : condV2 (.bool b) A B = condP (b = true) A B := by cases b <;> simp [condV2, condV, condP]
theorem loopW_r {α : Type} {mask : List Bool} {upd : α → List (Nat × AV)} {hp : α → List AObj} {st0 : ASt} {inv : α → Prop} {μ : α → Nat} {x : α} : loopW H0 mask upd hp st0 inv μ x Q .ret st = Q .ret st := (rfl)
theorem loopW_e {α : Type} {mask : List Bool} {upd : α → List (Nat × AV)} {hp : α → List AObj} {st0 : ASt} {inv : α → Prop} {μ : α → Nat} {x : α} (i : Nat) : loopW H0 mask upd hp st0 inv μ x Q (.exit i) st = Q (.exit i) st := (rfl)
theorem wOps_nil (l : List Oper) : wOps P ro l [] F st = F st := (rfl)
theorem wOps_no (l rest : List Oper) (dst : Option Tmp) (op : Op) (ty : TypeId) (pos : String) (after : Array Edge) : wOps P ro l (⟨dst, op, ty, pos, after, none⟩ :: rest) F ⟨s, h⟩ = wOp P ro ⟨dst, op, ty, pos, after, none⟩ (putK (wOps P ro l rest F) dst s) ⟨s, h⟩ := (rfl)
theorem wOps_if (l rest : List Oper) (dst : Option Tmp) (op : Op) (ty : TypeId) (pos : String) (after : Array Edge) (j : Nat) (want : Bool) : wOps P ro l (⟨dst, op, ty, pos, after, some (j, want)⟩ :: rest) F ⟨s, h⟩ = gOn (gdL l j) want P ro ⟨dst, op, ty, pos, after, some (j, want)⟩ (wOps P ro l rest F) s h := (rfl)
variable {dst : Option Tmp} {ty : TypeId} {pos : String} {after : Array Edge} {guard : Option (Nat × Bool)}
theorem gRun_tt (o : Oper) : gRun true true P ro o F s h = wOp P ro o (putK F o.dst s) ⟨s, h⟩ := (rfl)
theorem gRun_ff (o : Oper) : gRun false false P ro o F s h = wOp P ro o (putK F o.dst s) ⟨s, h⟩ := (rfl)
theorem gRun_tf (o : Oper) : gRun true false P ro o F s h = putK F o.dst s (.lit undef) h := (rfl)
theorem gRun_ft (o : Oper) : gRun false true P ro o F s h = putK F o.dst s (.lit undef) h := (rfl)
theorem gSplit_1 (v : AV) (d : Nat) (want : Bool) (o : Oper) : gSplit v d want P ro o F s h = gSplit2 v d want P ro o F s h := (rfl)
theorem gSplit_t (d : Nat) (want : Bool) (o : Oper) : gSplit2 (.bool true) d want P ro o F s h = gRun true want P ro o F (s.set d (.bool true)) h := (rfl)
theorem gSplit_f (d : Nat) (want : Bool) (o : Oper) : gSplit2 (.bool false) d want P ro o F s h = gRun false want P ro o F (s.set d (.bool false)) h := (rfl)
theorem gSplit_b (b : Bool) (d : Nat) (want : Bool) (o : Oper) : gSplit2 (.bool b) d want P ro o F s h = condP (b = true) (gRun true want P ro o F (s.set d (.bool true)) h) (gRun false want P ro o F (s.set d (.bool false)) h) := by
  cases b <;> simp [gSplit2, gSplit, condP]
theorem gSplit_u (d : Nat) (want : Bool) (o : Oper) : gSplit2 (.lit undef) d want P ro o F s h = putK F o.dst s (.lit undef) h := (rfl)
theorem gOn_s (d : Nat) (want : Bool) (o : Oper) : gOn (some d) want P ro o F s h = gSplit (s.getD d (.lit undef)) d want P ro o F s h := (rfl)
theorem w_move (x : Operand) : wOp P ro ⟨dst, .move x, ty, pos, after, guard⟩ K st = K (st.opd x) st.heap := (rfl)
theorem w_assign (x : Operand) : wOp P ro ⟨dst, .assign x, ty, pos, after, guard⟩ K st = K (st.opd x) st.heap := (rfl)
theorem w_pick (c x y : Operand) : wOp P ro ⟨dst, .pick c x y, ty, pos, after, guard⟩ K st = pickV (st.opd c) (st.opd x) (st.opd y) st.heap K := (rfl)
theorem w_alloc (t : Nat) : wOp P ro ⟨dst, .alloc t, ty, pos, after, guard⟩ K st = allocV (tInfo P t) st.heap K := (rfl)
theorem w_box (t : Nat) (x : Operand) : wOp P ro ⟨dst, .box t x, ty, pos, after, guard⟩ K st = (okV (st.opd x) ∧ K (.ptr st.heap.length 0) (st.heap ++ [.cells (st.opd x).cells])) := (rfl)
theorem w_build (t : Nat) (ps : List (Nat × Operand)) : wOp P ro ⟨dst, .build t ps.toArray, ty, pos, after, guard⟩ K st = buildV (tInfo P t) (ps.map fun p => (p.1, st.opd p.2)) st.heap K := (rfl)
theorem w_bslice (t n : Nat) (ps : List (Nat × Operand)) : wOp P ro ⟨dst, .buildSlice t n ps.toArray, ty, pos, after, guard⟩ K st = bsliceV (kdOf (tInfo P t)) n (ps.map fun p => (p.1, st.opd p.2)) st.heap K := (rfl)
theorem w_load (t : Nat) (x : Operand) : wOp P ro ⟨dst, .load t x, ty, pos, after, guard⟩ K st = loadV (tInfo P t) (st.opd x) st.heap K := (rfl)
theorem w_store (t : Nat) (x y : Operand) : wOp P ro ⟨dst, .store t x y, ty, pos, after, guard⟩ K st = storeV (tInfo P t) (st.opd x) (st.opd y) st.heap K := (rfl)
theorem w_bin (op : BinOp) (t t' : Nat) (x y : Operand) : wOp P ro ⟨dst, .binOp op t x y t', ty, pos, after, guard⟩ K st = binV op (kdOf (tInfo P t)) (st.opd x) (st.opd y) st.heap K (AOp P ro ⟨dst, .binOp op t x y t', ty, pos, after, guard⟩ K st) := (rfl)
theorem w_un (op : UnOp) (t : Nat) (x : Operand) : wOp P ro ⟨dst, .unOp op t x, ty, pos, after, guard⟩ K st = unV op (st.opd x) st.heap K (AOp P ro ⟨dst, .unOp op t x, ty, pos, after, guard⟩ K st) := (rfl)
theorem w_conv (t t' : Nat) (x : Operand) : wOp P ro ⟨dst, .convert t t' x, ty, pos, after, guard⟩ K st = convV (kdOf (tInfo P t)) (kdOf (tInfo P t')) (st.opd x) st.heap K (AOp P ro ⟨dst, .convert t t' x, ty, pos, after, guard⟩ K st) := (rfl)
theorem w_func (g : Nat) (l : List Operand) : wOp P ro ⟨dst, .makeFunc (.func g) #[] l.toArray, ty, pos, after, guard⟩ K st = K (.fn g (l.map st.opd)) st.heap := (rfl)
theorem w_mkmap (t : Nat) : wOp P ro ⟨dst, .makeMap t none, ty, pos, after, guard⟩ K st = K (.map st.heap.length) (st.heap ++ [.map 0 []]) := (rfl)
theorem w_slice (t : Nat) (x : Operand) (lo hi : Option Operand) : wOp P ro ⟨dst, .slice t x lo hi none, ty, pos, after, guard⟩ K st = sliceV (kdOf (tInfo P t)) (st.opd x) (lo.map st.opd) (hi.map st.opd) st.heap K (AOp P ro ⟨dst, .slice t x lo hi none, ty, pos, after, guard⟩ K st) := (rfl)
theorem w_faddr (t k : Nat) (x : Operand) : wOp P ro ⟨dst, .fieldAddr t x k, ty, pos, after, guard⟩ K st = faddrF (nthF (tInfo P t) k) (st.opd x) st.heap K := (rfl)
theorem w_field (t k : Nat) (x : Operand) : wOp P ro ⟨dst, .field t x k, ty, pos, after, guard⟩ K st = fieldF (nthF (tInfo P t) k) (st.opd x) st.heap K := (rfl)
theorem w_iaddr (t : Nat) (x y : Operand) : wOp P ro ⟨dst, .indexAddr t x y, ty, pos, after, guard⟩ K st = iaddrT (kdOf (tInfo P t)) (st.opd x) (st.opd y) st.heap K := (rfl)
theorem w_nilc (x : Operand) : wOp P ro ⟨dst, .nilCheck x, ty, pos, after, guard⟩ K st = nilV (st.opd x) st.heap K := (rfl)
theorem nilV_p (id o : Nat) (h : List AObj) (K : AV → List AObj → Prop) : nilV (.ptr id o) h K = K (.ptr id o) h := (rfl)
theorem nilV_c (cs : List AV) (h : List AObj) (K : AV → List AObj → Prop) : nilV (.cptr cs) h K = K (.cptr cs) h := (rfl)
theorem w_index (t : Nat) (x y : Operand) : wOp P ro ⟨dst, .index t x y, ty, pos, after, guard⟩ K st = indexT (tInfo P) (kdOf (tInfo P t)) (st.opd x) (st.opd y) st.heap K := (rfl)
theorem someV_s (v : AV) (h : List AObj) (K : AV → List AObj → Prop) : someV (some v) h K = K v h := (rfl)
theorem extrV_t (cs : List AV) (i : Nat) (h : List AObj) (K : AV → List AObj → Prop) : extrV (.tup cs) i h K = someV cs[i]? h K := (rfl)
theorem w_extr (x : Operand) (i : Nat) : wOp P ro ⟨dst, .extract x i, ty, pos, after, guard⟩ K st = extrV (st.opd x) i st.heap K := (rfl)
theorem w_len (x : Operand) (t : Nat) : wOp P ro ⟨dst, .call ⟨.builtin .len, #[x], #[t]⟩, ty, pos, after, guard⟩ K st = lenV (kdOf (tInfo P t)) (st.opd x) st.heap K (AOp P ro ⟨dst, .call ⟨.builtin .len, #[x], #[t]⟩, ty, pos, after, guard⟩ K st) := (rfl)
theorem w_max (x y : Operand) (ts : Array TypeId) : wOp P ro ⟨dst, .call ⟨.builtin .max, #[x, y], ts⟩, ty, pos, after, guard⟩ K st = mxV true (st.opd x) (st.opd y) st.heap K (AOp P ro ⟨dst, .call ⟨.builtin .max, #[x, y], ts⟩, ty, pos, after, guard⟩ K st) := (rfl)
theorem w_min (x y : Operand) (ts : Array TypeId) : wOp P ro ⟨dst, .call ⟨.builtin .min, #[x, y], ts⟩, ty, pos, after, guard⟩ K st = mxV false (st.opd x) (st.opd y) st.heap K (AOp P ro ⟨dst, .call ⟨.builtin .min, #[x, y], ts⟩, ty, pos, after, guard⟩ K st) := (rfl)
theorem w_call (f : Operand) (l : List Operand) (ts : Array TypeId) : wOp P ro ⟨dst, .call ⟨.value f, l.toArray, ts⟩, ty, pos, after, guard⟩ K st = callV P (st.opd f) (l.map st.opd) st.heap K (AOp P ro ⟨dst, .call ⟨.value f, l.toArray, ts⟩, ty, pos, after, guard⟩ K st) := (rfl)
theorem w_append (l : List Operand) (ts : Array TypeId) : wOp P ro ⟨dst, .call ⟨.builtin .append, l.toArray, ts⟩, ty, pos, after, guard⟩ K st = AOp P ro ⟨dst, .call ⟨.builtin .append, l.toArray, ts⟩, ty, pos, after, guard⟩ K st := (rfl)
theorem w_lookup (t : Nat) (x y : Operand) (b : Bool) : wOp P ro ⟨dst, .lookup t x y b, ty, pos, after, guard⟩ K st = AOp P ro ⟨dst, .lookup t x y b, ty, pos, after, guard⟩ K st := (rfl)
theorem w_mapUpdate (t : Nat) (x y z : Operand) : wOp P ro ⟨dst, .mapUpdate t x y z, ty, pos, after, guard⟩ K st = AOp P ro ⟨dst, .mapUpdate t x y z, ty, pos, after, guard⟩ K st := (rfl)
theorem w_range (t : Nat) (x : Operand) : wOp P ro ⟨dst, .range t x, ty, pos, after, guard⟩ K st = AOp P ro ⟨dst, .range t x, ty, pos, after, guard⟩ K st := (rfl)
theorem w_next (x : Operand) (b : Bool) : wOp P ro ⟨dst, .next x b, ty, pos, after, guard⟩ K st = AOp P ro ⟨dst, .next x b, ty, pos, after, guard⟩ K st := (rfl)
theorem w_entry (x : Operand) : wOp P ro ⟨dst, .entry x, ty, pos, after, guard⟩ K st = AOp P ro ⟨dst, .entry x, ty, pos, after, guard⟩ K st := (rfl)
theorem putK_s (d : Nat) (v : AV) : putK F (some d) s v h = F ⟨s.set d v, h⟩ := (rfl)
theorem putK_n (v : AV) : putK F none s v h = F ⟨s, h⟩ := (rfl)
theorem kdOf_s (i : TI) : kdOf (some i) = i.kd := (rfl)
theorem nthF_s (a : Nat) (b : Bool) (c : Option (List AV)) (fs : List (Nat × Nat × Bool)) (k : Nat) : nthF (some ⟨a, b, c, .struct fs⟩) k = fs[k]? := (rfl)
theorem aget0 {α : Type} (H L : List α) (x : α) : (H ++ x :: L)[H.length]? = some x := by simp
theorem agetN {α : Type} (H L : List α) (i : Nat) : (H ++ L)[H.length + i]? = L[i]? := by rw [List.getElem?_append_right (by omega)]; congr 1; omega
theorem getD_app (H L : List AObj) (i : Nat) {x : AObj} (h : H[i]? = some x) : (H ++ L)[i]? = some x := by
  obtain ⟨h1, _⟩ := List.getElem?_eq_some_iff.1 h
  rw [List.getElem?_append_left h1, h]
theorem finW_n {H : List AObj} {m : Nat} {R : AV → List AObj → Prop} {rs : List ResultVar} : finW P H m R rs .normal st = finR P rs st (finE H m R st.heap) := (rfl)
theorem finW_r {H : List AObj} {m : Nat} {R : AV → List AObj → Prop} {rs : List ResultVar} : finW P H m R rs .ret st = finR P rs st (finE H m R st.heap) := (rfl)
theorem finV_n {H H1 : List AObj} {m : Nat} {v : AV} {rs : List ResultVar} : finV P H m v H1 rs .normal st = finR P rs st (finG H m v H1 st.heap) := (rfl)
theorem finV_r {H H1 : List AObj} {m : Nat} {v : AV} {rs : List ResultVar} : finV P H m v H1 rs .ret st = finR P rs st (finG H m v H1 st.heap) := (rfl)
theorem opd_t (t : Nat) : ASt.opd ⟨s, h⟩ (.tmp t) = s.getD t (.lit undef) := (rfl)
theorem inR_i64 (n : Int) : inR .i64 n = (-9223372036854775808 ≤ n ∧ n ≤ 9223372036854775807) := (rfl)
theorem inR_u8 (n : Int) : inR .u8 n = (0 ≤ n ∧ n ≤ 255) := (rfl)
theorem inR_u64 (n : Int) : inR .u64 n = (0 ≤ n ∧ n ≤ 18446744073709551615) := (rfl)
theorem set0 {α : Type} (a v : α) (l : List α) : (a :: l).set 0 v = v :: l := (rfl)
theorem setS {α : Type} (a v : α) (l : List α) (n : Nat) : (a :: l).set (n + 1) v = a :: l.set n v := (rfl)
theorem getD0 {α : Type} (a v : α) (l : List α) : (a :: l).getD 0 v = a := (rfl)
theorem getDS {α : Type} (a v : α) (l : List α) (n : Nat) : (a :: l).getD (n + 1) v = l.getD n v := (rfl)
theorem nth0 {α : Type} (a : α) (l : List α) : (a :: l)[0]? = some a := (rfl)
theorem nthS {α : Type} (a : α) (l : List α) (n : Nat) : (a :: l)[n + 1]? = l[n]? := by simp
theorem opd_c (v : Value) : ASt.opd ⟨s, h⟩ (.const v) = ofVal v := (rfl)
theorem opd_g (g : Nat) : ASt.opd ⟨s, h⟩ (.global g) = .lit (.pointer (some ⟨g, 0, none⟩)) := (rfl)
theorem opd_f (g : Nat) : ASt.opd ⟨s, h⟩ (.func g) = .fn g [] := (rfl)
theorem okC_bool (b : Bool) : okC (.bool b) = True := (rfl)
theorem okC_int (k : IntKind) (n : Int) : okC (.int k n) = True := (rfl)
theorem okC_str (s : List UInt8) : okC (.str s) = True := (rfl)
theorem okC_sl (t : Tok) (xs : List AV) : okC (.sl t xs) = True := (rfl)
theorem okC_arr (a b c : Nat) : okC (.arr a b c) = True := (rfl)
theorem okC_ptr (a b : Nat) : okC (.ptr a b) = True := (rfl)
theorem okC_cptr (cs : List AV) : okC (.cptr cs) = True := (rfl)
theorem okC_map (a : Nat) : okC (.map a) = True := (rfl)
theorem okC_fn (a : Nat) (cs : List AV) : okC (.fn a cs) = True := (rfl)
theorem okC_yld (a : Nat) : okC (.yld a) = True := (rfl)
theorem okC_gr (a b : Nat) : okC (.gr a b) = True := (rfl)
theorem cells_gr (a b : Nat) : AV.cells (.gr a b) = [.gr a b] := (rfl)
theorem okC_lit (v : Value) : okC (.lit v) = (v.oneCell' = true) := (rfl)
theorem gSl_nil (k : Nat) : gSl k [] = .sl .zero [] := (rfl)
theorem gTok_nil (e sz : Nat) : gTok e sz [] = .dead := (rfl)
theorem cells_bool (b : Bool) : AV.cells (.bool b) = [.bool b] := (rfl)
theorem cells_int (k : IntKind) (n : Int) : AV.cells (.int k n) = [.int k n] := (rfl)
theorem cells_str (s : List UInt8) : AV.cells (.str s) = [.str s] := (rfl)
theorem cells_sl (t : Tok) (xs : List AV) : AV.cells (.sl t xs) = [.sl t xs] := (rfl)
theorem cells_arr (a b c : Nat) : AV.cells (.arr a b c) = [.arr a b c] := (rfl)
theorem cells_ptr (a b : Nat) : AV.cells (.ptr a b) = [.ptr a b] := (rfl)
theorem cells_cptr (cs : List AV) : AV.cells (.cptr cs) = [.cptr cs] := (rfl)
theorem cells_map (a : Nat) : AV.cells (.map a) = [.map a] := (rfl)
theorem cells_fn (a : Nat) (cs : List AV) : AV.cells (.fn a cs) = [.fn a cs] := (rfl)
theorem cells_yld (a : Nat) : AV.cells (.yld a) = [.yld a] := (rfl)
theorem cells_lit (v : Value) : AV.cells (.lit v) = [.lit v] := (rfl)
theorem cells_iter (a : Nat) : AV.cells (.iter a) = [.iter a] := (rfl)
theorem cells_agg (cs : List AV) : AV.cells (.agg cs) = cs := (rfl)
theorem sc_gSl (n k : Nat) (xs : List AV) (hk : k < n) (h : ScopedL n xs) : Scoped n (gSl k xs) = True := eq_true (scoped_gSl hk h)
theorem ltA (n k : Nat) : (n < n + (k + 1)) = True := eq_true (by omega)
theorem ltB (n a b : Nat) : (n + a < n + b) = (a < b) := by simp
end rules
attribute [push_cast] okC_gr cells_gr cells_agg gSl_cells cells_bool cells_int cells_str cells_sl cells_arr cells_ptr cells_cptr cells_map cells_fn cells_yld cells_lit cells_iter
attribute [push_cast] sc_gSl ltA ltB gSl_nil gTok_nil okC_lit okC_bool okC_int okC_str okC_sl okC_arr okC_ptr okC_cptr okC_map okC_fn okC_yld
attribute [push_cast] set0 setS getD0 getDS nth0 nthS opd_t opd_c opd_g opd_f
attribute [push_cast high] condV_t condV_f gSplit_t gSplit_f
attribute [push_cast] W_skip W_ret W_exit W_seq W_cond W_block W_region W_draw W_loop W_range thenK_n thenK_r thenK_e blockK_n blockK_r blockK_e condV_1 condV_b condP_t condP_f condP_b condP_n loopW_r loopW_e wOps_nil wOps_no wOps_if gRun_tt gRun_ff gRun_tf gRun_ft gSplit_1 gSplit_b gSplit_u gOn_s w_move w_assign w_pick w_alloc w_box w_build w_bslice w_load w_store w_bin w_un w_conv w_func w_mkmap w_slice w_faddr w_field w_iaddr w_nilc nilV_p nilV_c w_index w_extr w_len w_max w_min w_call w_append w_lookup w_mapUpdate w_range w_next w_entry putK_s putK_n kdOf_s nthF_s aget0 agetN finW_n finW_r finV_n finV_r finG inR_i64 inR_u8 inR_u64 gdL loadG loadH loadGr loadV storeH storeGr storeV faddrGr faddrF fieldF iaddrGr iaddrT indexT idxE binI binS binB binV unV fillV fillA buildV rowOk bsliceV optI sliceS sliceR sliceV convV someV_s extrV_t allocV pickV lenV mxV callB callV leL lenIs okC_gSl okCells okV dropC cellAt aggV aggP cellVal cellPre nz resVal resPre resVals resPres finR finE fgtW_junk fgtW_self fgtW_sl fgtW_agg fgtW_tup fgtW_int fgtW_bool fgtW_str fgtW_gSl fgtL slotsW weakW_mk outok_0 outok_s outok_j List.replicate List.take_length List.append_cancel_left_eq List.cons.injEq and_true true_and and_self not_true_eq_false not_false_eq_true Nat.sub_zero Int.natCast_nonneg decide_eq_true_eq decide_eq_false_iff_not Bool.not_eq_true' Bool.not_eq_false' Bool.true_eq_false AV.int.injEq AV.bool.injEq AV.str.injEq AV.agg.injEq AV.tup.injEq AV.sl.injEq Option.map_some Option.map_none Value.oneCell'
attribute [push_cast] putD stg beqB keepG pairsG
attribute [irreducible] condP loopW
end Ab
namespace Ab
open Go
variable {P : Program} {ro : Option Nat} {H0 : List AObj} {Q : Exit → ASt → Prop} {st : ASt}
theorem osc_amap {κ α : Type} (ak : κ → AV) (av : α → AV) (m : List (κ × α)) (n ver : Nat) (h1 : ∀ k, Scoped n (ak k)) (h2 : ∀ v, Scoped n (av v)) : OScoped n (.map ver (amap ak av m)) := oscoped_amap h1 h2
def Ref (H0 : List AObj) (st st' : ASt) : Prop := ∀ C0 C a, C0.H = H0 → Good C0 → Ext C0 C → Good C → C.H = st.heap → SD C0 C st a → ∃ C', C'.w = C.w ∧ Ext C0 C' ∧ Good C' ∧ C'.H = st'.heap ∧ SD C0 C' st' a
theorem Ref.trans {st1 st2 : ASt} (h1 : Ref H0 st st1) (h2 : Ref H0 st1 st2) : Ref H0 st st2 := by
  intro C0 C a h0 hg0 hx hg hH hs
  obtain ⟨C', hw, hx', hg', hH', hs'⟩ := h1 C0 C a h0 hg0 hx hg hH hs
  obtain ⟨C2, hw2, hx2, hg2, hH2, hs2⟩ := h2 C0 C' a h0 hg0 hx' hg' hH' hs'
  exact ⟨C2, hw2.trans hw, hx2, hg2, hH2, hs2⟩
theorem leL_of {l : List AV} : ∀ {n : Nat}, n ≤ l.length → leL n l := by
  induction l with
  | nil => intro n h; cases n with
    | zero => trivial
    | succ n => simp at h
  | cons a l ih => intro n h; cases n with
    | zero => trivial
    | succ n => exact ih (by simpa using h)
def scA (n : Nat) : List AObj → Prop
  | [] => True
  | o :: L => OScoped n o ∧ scA n L
theorem scA_spec {n : Nat} : ∀ {L : List AObj}, scA n L → ∀ o, o ∈ L → OScoped n o
  | _ :: _, h, _, .head _ => h.1
  | _ :: L, h, o, .tail _ ho => scA_spec (L := L) h.2 o ho
def asgW (P : Program) (ro : Option Nat) (G G' : List AObj) (body : Code) (K : Exit → ASt → Prop) : Exit → ASt → Prop
  | .normal, st => st.heap.take G.length = G ∧ W P ro G body K ⟨st.slots, G' ++ st.heap.drop G.length⟩
  | _, _ => False
def iterW (B : List AObj) (j : Option Code) : Exit → ASt → Prop
  | .normal, st => j = none ∧ st.heap.take B.length = B
  | .ret, st => j = some .ret ∧ st.heap.take B.length = B
  | .exit k, st => j = some (.exit k) ∧ st.heap.take B.length = B
  | _, _ => False
theorem take_app {B h : List AObj} (e : h.take B.length = B) : ∃ L, h = B ++ L := ⟨h.drop B.length, by conv => lhs; rw [← List.take_append_drop B.length h, e]⟩
theorem AW_iterW {g : Operand} {ps : Array Tmp} {assign body : Code} {β : Type} {items : List β} {enc : β → List AV} {A : List AObj → Prop} (f : Nat) (caps : List AV) (hit : IterC P f caps items enc A)
    (H : List AObj) (Lh : List β → List AObj) (k : Nat) (nx : List β → β → Option Code) (hgv : st.opd g = .fn f caps) (hok : callOk P f = true) (h0 : st.heap = H ++ Lh []) (hlen : ∀ p, (Lh p).length = k)
    (hA : ∀ lp, A (H ++ Lh [] ++ [lp])) (hsc : ∀ p, scA (H.length + k) (Lh p)) (hps : ∀ x, ps.size = (enc x).length)
    (round : ∀ pre x suf X l lp lp', items = pre ++ x :: suf → AllNone nx pre →
      W P (some l) (H ++ Lh pre ++ lp :: X) assign (asgW P (some l) (H ++ Lh pre ++ lp :: X) (H ++ Lh pre ++ lp' :: X) body (iterW (H ++ Lh (pre ++ [x]) ++ lp' :: X) (nx pre x))) ⟨zipPut ps.toList (enc x) st.slots, H ++ Lh pre ++ lp :: X⟩)
    (hend : AllNone nx items → ∀ lp, Q .normal ⟨st.slots, H ++ Lh items ++ [lp]⟩)
    (hleft : ∀ pre x suf c lp, items = pre ++ x :: suf → AllNone nx pre → nx pre x = some c → match c with
      | .ret => Q .ret ⟨st.slots, H ++ Lh (pre ++ [x]) ++ [lp]⟩
      | .exit k => Q (.exit k) ⟨st.slots, H ++ Lh (pre ++ [x]) ++ [lp]⟩
      | _ => False) : AW P none H0 (.rangeFunc g ps assign body) Q st := by
  refine AW_iterE f caps hit (fun p => H ++ Lh p) nx hgv hok h0.symm (by rw [h0]; exact hA _) (H.length + k) (by rw [h0]; simp [hlen]) (fun p => by simp [hlen]) (fun p o ho => ?_) hps ?_ (fun h => hend h _) (fun pre x suf c h1 h2 h3 => ?_)
  · rcases List.mem_append.1 ho with h | h
    · exact .inl (by rw [h0]; exact List.mem_append_left _ h)
    · exact .inr (scA_spec (hsc p) o h)
  · intro pre x suf X l N G G' h1 h2 h3 h4 h5 h6 h7
    subst h4; subst h5
    refine AW_mono (AW_of_W (round pre x suf X l (.loop st.slots .ready none ps assign body) (.loop st.slots .busy none ps assign body) h1 h2)) ?_
    intro e st1 h
    cases e with
    | normal =>
      obtain ⟨ht, hb⟩ := h
      obtain ⟨L, hL⟩ := take_app ht
      refine ⟨rfl, L, hL, ?_⟩
      rw [hL, List.drop_left] at hb
      refine AW_mono (AW_of_W hb) ?_
      intro e st2 h
      cases e with
      | normal => exact ⟨h.1, take_app h.2⟩
      | ret => exact ⟨h.1, take_app h.2⟩
      | exit k => exact ⟨h.1, take_app h.2⟩
      | _ => exact h.elim
    | _ => exact h.elim
  · have := hleft pre x suf c (.loop st.slots .exhausted (some c) ps assign body) h1 h2 h3
    cases c <;> first | exact this | exact this.elim
section rules
variable {G G' B : List AObj} {body : Code} {K : Exit → ASt → Prop} {j : Option Code} {s : List AV} {h : List AObj}
theorem asgW_n : asgW P ro G G' body K .normal ⟨s, h⟩ = (h.take G.length = G ∧ W P ro G body K ⟨s, G' ++ h.drop G.length⟩) := (rfl)
theorem iterW_n : iterW B j .normal ⟨s, h⟩ = (j = none ∧ h.take B.length = B) := (rfl)
theorem iterW_r : iterW B j .ret ⟨s, h⟩ = (j = some .ret ∧ h.take B.length = B) := (rfl)
theorem iterW_e (k : Nat) : iterW B j (.exit k) ⟨s, h⟩ = (j = some (.exit k) ∧ h.take B.length = B) := (rfl)
theorem zipPut_s (t : Nat) (ts : List Nat) (v : AV) (vs l : List AV) : zipPut (t :: ts) (v :: vs) l = zipPut ts vs (l.set t v) := (rfl)
theorem zipPut_0 (l : List AV) : zipPut [] [] l = l := (rfl)
theorem dropA0 {α : Type} (A L : List α) : (A ++ L).drop A.length = L := List.drop_left
theorem dropAN {α : Type} (A L : List α) (i : Nat) : (A ++ L).drop (A.length + i) = L.drop i := by rw [← List.drop_drop, List.drop_left]
theorem takeA0' {α : Type} (A L : List α) : (A ++ L).take A.length = A := List.take_left
theorem takeAN' {α : Type} (A L : List α) (i : Nat) : (A ++ L).take (A.length + i) = A ++ L.take i := by rw [List.take_append, List.take_of_length_le (by omega), Nat.add_sub_cancel_left]
theorem scA_0 (n : Nat) : scA n [] = True := (rfl)
theorem scA_s (n : Nat) (o : AObj) (L : List AObj) : scA n (o :: L) = (OScoped n o ∧ scA n L) := (rfl)
end rules
attribute [push_cast] Option.getD_some Option.getD_none List.drop_length asgW_n iterW_n iterW_r iterW_e zipPut_s zipPut_0 dropA0 dropAN takeA0' takeAN' scA_0 scA_s
theorem AW_forget {P : Program} {ro : Option Nat} {H0 : List AObj} {c : Code} {Q : Exit → ASt → Prop} {s h} (i : Nat) (v v' : AV) (hi : s[i]? = some v) (hf : Forget v v') (k : AW P ro H0 c Q ⟨s.set i v', h⟩) : AW P ro H0 c Q ⟨s, h⟩ := by
  intro C0 C a h0 hg0 hx hg hH hs
  refine k C0 C a h0 hg0 hx hg hH ?_
  refine ⟨⟨hs.toSRel.1.trans (by simp), fun j hj hj' => ?_⟩, hs.defok⟩
  have hlt := (List.getElem?_eq_some_iff.1 hi).1
  have h1 := hs.toSRel.2 j (by simpa using hj) hj'
  simp only [List.getElem_set]
  split
  · rename_i e; subst e
    rw [(List.getElem?_eq_some_iff.1 hi).2] at h1
    exact hf _ _ h1
  · exact h1
end Ab
