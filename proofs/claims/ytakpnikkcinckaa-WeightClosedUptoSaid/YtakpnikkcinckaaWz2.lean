/- Part 2 of 6 of a proof. WeightClosed -/
import Derived.Test.YtakpnikkcinckaaWz1
import Derived.Laws.StructEq
import Derived.Laws.Externs
import Derived.Lib.Bytealg
import Derived.Test.YtakpnikkcinckaaProg
import Derived.KernelRfl
set_option linter.unusedVariables false
set_option linter.unusedSimpArgs false
namespace Ab
open Go
variable {P : Program} {ro : Option Nat} {H0 : List AObj} {Q : Exit → ASt → Prop} {st : ASt} {dst : Option Tmp} {ty : TypeId} {pos : String} {after : Array Edge} {guard : Option (Nat × Bool)} {K : AV → List AObj → Prop}
def ArrT (P : Program) (t : TypeId) (n : Nat) (e : TypeId) : Prop := P.underlying t = some (.array n e)
theorem AOp_indexAddr_cptr {t : Nat} {x y : Operand} (len e sz : Nat) (cs : List AV) (kd : IntKind) (n : Int) (hx : st.opd x = .cptr cs) (hy : st.opd y = .int kd n) (ht : ArrT P t len e) (hs : SzOf P e sz)
    (h0 : 0 ≤ n) (hlt : n.toNat < len) (k : K (.cptr (cs.drop (n.toNat * sz))) st.heap) : AOp P ro ⟨dst, .indexAddr t x y, ty, pos, after, guard⟩ K st :=
  AOp_pure _ (fun c => by simp) (fun C a _ _ hsr => by
    have hv := hsr.opd x
    have hi := hsr.opd y
    rw [hx] at hv
    rw [hy] at hi
    generalize hxx : a.eval x = xx at hv
    cases hv with
    | cptr _ b o f hrow hrel =>
      have hle : n < (len : Int) := by omega
      have hrun : (Instr.indexAt t (.pointer (some ⟨b, o, none⟩)) (.int kd n)).run P C.w = .ok (.pointer (some ⟨b, o + n.toNat * sz, none⟩)) C.w := by
        have ht' : P.underlying t = some (.array len e) := ht
        simp [Instr.indexAt, Instr.sureAddr, run_underlying ht', asIntOf, h0, hle, hs.run, add_mk]
      refine ⟨_, by simp [execOp, hxx, hi.int_inv, hrun]; rfl, ?_⟩
      refine .cptr _ b (o + n.toNat * sz) (fun j => f (n.toNat * sz + j)) (fun j hj => ?_) (fun j hj => ?_)
      · have hj' : n.toNat * sz + j < cs.length := by simp at hj; omega
        have := hrow (n.toNat * sz + j) hj'
        rw [← Nat.add_assoc] at this
        exact this
      · have hj' : n.toNat * sz + j < cs.length := by simp at hj; omega
        have := hrel (n.toNat * sz + j) hj'
        simpa using this) k
theorem AOp_indexAddr_ptr {t : Nat} {x y : Operand} (len e sz id o : Nat) (kd : IntKind) (n : Int) (hx : st.opd x = .ptr id o) (hy : st.opd y = .int kd n) (ht : ArrT P t len e) (hs : SzOf P e sz)
    (h0 : 0 ≤ n) (hlt : n.toNat < len) (k : K (.ptr id (o + n.toNat * sz)) st.heap) : AOp P ro ⟨dst, .indexAddr t x y, ty, pos, after, guard⟩ K st :=
  AOp_pure _ (fun c => by simp) (fun C a _ _ hsr => by
    have hv := hsr.opd x
    have hi := hsr.opd y
    rw [hx] at hv
    rw [hy] at hi
    generalize hxx : a.eval x = xx at hv
    cases hv with
    | ptr _ _ hk =>
      have hle : n < (len : Int) := by omega
      have hrun : (Instr.indexAt t (.pointer (some ⟨C.μ id, o, none⟩)) (.int kd n)).run P C.w = .ok (.pointer (some ⟨C.μ id, o + n.toNat * sz, none⟩)) C.w := by
        have ht' : P.underlying t = some (.array len e) := ht
        simp [Instr.indexAt, Instr.sureAddr, run_underlying ht', asIntOf, h0, hle, hs.run, add_mk]
      exact ⟨.pointer (some ⟨C.μ id, o + n.toNat * sz, none⟩), by simp [execOp, hxx, hi.int_inv, hrun], .ptr _ _ hk⟩) k
theorem step_claim {C : Ctx} (hg : Good C) (b n : Nat) (hb : b < C.w.heap.size) (hS : C.S b ≤ n) (hno : ∀ (k : Nat) (o : AObj), C.H[k]? = some o → o.kind ≠ 6 → C.μ k ≠ b)
    {C' : Ctx} (hC : C' = { C with S := fun x => if x = b then n else C.S x }) : Good C' ∧ Ext C C' := by
  subst hC
  have he : Ext C { C with S := fun x => if x = b then n else C.S x } :=
    ⟨rfl, rfl, rfl, Nat.le_refl _, fun x => (by show C.S x ≤ if x = b then n else C.S x; split; (rename_i h; rw [h]; exact hS); exact Nat.le_refl _), fun _ _ _ => rfl, fun _ _ _ => rfl, fun k o h hd => .inr ⟨k, o, h, hd, rfl⟩,
     fun k o h => ⟨o, h, fun _ => rfl⟩, fun _ _ _ _ _ => rfl, fun k e sz len h => ⟨len, h, Nat.le_refl _, fun _ => ⟨rfl, fun cur hc => ⟨cur, hc, rfl⟩⟩⟩, fun k ver es h => ⟨ver, es, h, Nat.le_refl _, fun _ => ⟨rfl, rfl⟩⟩⟩
  refine ⟨⟨fun k o h => ?_, hg.lt, hg.inj, fun x hx => ?_⟩, he⟩
  · by_cases hd : o.kind = 6
    · cases o <;> first | trivial | (simp [AObj.kind] at hd)
    · exact ORel.ext he rfl rfl (by show (if _ then _ else _) = _; rw [if_neg (hno k o h hd)]) (hg.obj k o h)
  · have hx' : C.w.heap.size ≤ x := hx
    show (if x = b then n else C.S x) = 0
    rw [if_neg (by omega)]; exact hg.fresh x hx'
inductive FreezeOk (m : Nat) (vs : List AV) : List AV → List AV → Prop
  | nil : FreezeOk m vs [] []
  | junk {v : AV} {l l' : List AV} (h : FreezeOk m vs l l') : FreezeOk m vs (v :: l) (.junk :: l')
  | same {v : AV} {l l' : List AV} (hv : Scoped m v) (h : FreezeOk m vs l l') : FreezeOk m vs (v :: l) (v :: l')
  | froz {o : Nat} {l l' : List AV} (h : FreezeOk m vs l l') : FreezeOk m vs (.ptr m o :: l) (.cptr (vs.drop o) :: l')
theorem FreezeOk.length {m : Nat} {vs l l' : List AV} (h : FreezeOk m vs l l') : l.length = l'.length := by
  induction h <;> simp_all
theorem FreezeOk.rel {m : Nat} {vs l l' : List AV} (h : FreezeOk m vs l l') {C C' : Ctx} (hscp : ∀ v x, Scoped m v → VRel C v x → VRel C' v x) (hfz : ∀ o x, VRel C (.ptr m o) x → VRel C' (.cptr (vs.drop o)) x) :
    ∀ i (h1 : i < l.length) (h2 : i < l'.length) (x : Value), VRel C l[i] x → VRel C' l'[i] x := by
  induction h with
  | nil => intro i h1; simp at h1
  | junk h ih =>
    intro i h1 h2 x hx
    cases i with
    | zero => exact .junk x
    | succ i => exact ih i (by simpa using h1) (by simpa using h2) x (by simpa using hx)
  | same hv h ih =>
    intro i h1 h2 x hx
    cases i with
    | zero => exact hscp _ _ hv (by simpa using hx)
    | succ i => exact ih i (by simpa using h1) (by simpa using h2) x (by simpa using hx)
  | froz h ih =>
    intro i h1 h2 x hx
    cases i with
    | zero => exact hfz _ _ (by simpa using hx)
    | succ i => exact ih i (by simpa using h1) (by simpa using h2) x (by simpa using hx)
inductive PK where
  | str
  | int (k : IntKind)
  | bool
def PK.ok : PK → AV → Prop
  | .str, .str _ => True
  | .int k, .int k' _ => k' = k
  | .bool, .bool _ => True
  | _, _ => False
def pval : AV → Value
  | .str s => .string ⟨s.toArray⟩
  | .int k n => .int k n
  | .bool b => .bool b
  | _ => undef
theorem PK.inv {C : Ctx} {p : PK} {v : AV} {x : Value} (h : p.ok v) (hv : VRel C v x) : x = pval v := by
  cases p <;> cases v <;> simp [PK.ok] at h <;> cases hv <;> rfl
theorem PK.rel {C : Ctx} {p : PK} {v : AV} (h : p.ok v) : VRel C v (pval v) := by
  cases p <;> cases v <;> simp [PK.ok] at h
  · exact .str _
  · exact .int _ _
  · exact .bool _
def fieldsPlain (P : Program) : Nat → List Field → Option (List PK)
  | _, [] => some []
  | n, f :: fs => if f.name = "_" ∨ f.offset ≠ n then none else match P.underlying f.type with
    | some .string => (fieldsPlain P (n + 1) fs).map (.str :: ·)
    | some (.int k) => (fieldsPlain P (n + 1) fs).map (.int k :: ·)
    | some .bool => (fieldsPlain P (n + 1) fs).map (.bool :: ·)
    | _ => none
structure PlainT (P : Program) (t : TypeId) (l : List PK) : Prop where
  und : P.underlying t = some (.struct (P.fieldsOf t))
  fields : fieldsPlain P 0 (P.fieldsOf t).toList = some l
  held : P.stoodInHeld t = false
  guard : P.eqGuardType P.depth t = false
def KindsOk : List PK → List AV → Prop
  | [], [] => True
  | p :: ps, v :: vs => p.ok v ∧ KindsOk ps vs
  | _, _ => False
theorem fieldsPlain_cons {n : Nat} {f : Field} {fs : List Field} {l : List PK} (h : fieldsPlain P n (f :: fs) = some l) : ∃ p ps, l = p :: ps ∧ f.name ≠ "_" ∧ f.offset = n ∧ fieldsPlain P (n + 1) fs = some ps ∧
    P.underlying f.type = some (match p with | .str => .string | .int k => .int k | .bool => .bool) := by
  unfold fieldsPlain at h
  split at h
  · cases h
  · rename_i hn
    have h1 : f.name ≠ "_" := fun e => hn (.inl e)
    have h2 : f.offset = n := Decidable.byContradiction fun e => hn (.inr e)
    split at h
    · rename_i hu
      cases hf : fieldsPlain P (n + 1) fs <;> simp [hf] at h
      exact ⟨.str, _, h.symm, h1, h2, rfl, hu⟩
    · rename_i k hu
      cases hf : fieldsPlain P (n + 1) fs <;> simp [hf] at h
      exact ⟨.int k, _, h.symm, h1, h2, rfl, hu⟩
    · rename_i hu
      cases hf : fieldsPlain P (n + 1) fs <;> simp [hf] at h
      exact ⟨.bool, _, h.symm, h1, h2, rfl, hu⟩
    · cases h
theorem part_plain {t : TypeId} {p : PK} (ht : P.underlying t = some (match p with | .str => .string | .int k => .int k | .bool => .bool)) {cs : Array Value} {o : Nat} {v : Value} (hv : cs[o]? = some v) (w : World) : (part t cs o).run P w = .ok v w := by
  have : AggT P t false := by unfold AggT; rw [ht]; cases p <;> rfl
  simp [part, this.run, hv]
theorem equal_plain {t : TypeId} {p : PK} (ht : P.underlying t = some (match p with | .str => .string | .int k => .int k | .bool => .bool)) {x y : AV} (hx : p.ok x) (hy : p.ok y) (d : Nat) (w : World) [Decidable (x = y)] :
    (Op.equalIn (d + 1) t (pval x) (pval y)).run P w = .ok (decide (x = y)) w := by
  cases p <;> cases x <;> simp [PK.ok] at hx <;> cases y <;> simp [PK.ok] at hy
  · rename_i s s'
    simp only [pval, run_equalIn_string w d t _ _ ht, toList_mk]
    congr 1; rw [Bool.eq_iff_iff]; simp
  · subst hx; subst hy
    simp only [pval, run_equalIn_int w d t _ _ _ _ ht]
    congr 1; rw [Bool.eq_iff_iff]; simp
  · simp only [pval, run_equalIn_bool' w d t _ _ ht]
    congr 1; rw [Bool.eq_iff_iff]; simp
open Classical in
theorem eqFields_plain (d : Nat) (w : World) : ∀ (fs : List Field) (l : List PK) (n : Nat) (xs ys : List AV) (X Y : Array Value), fieldsPlain P n fs = some l → KindsOk l xs → KindsOk l ys →
    (∀ i (h : i < xs.length), X[n + i]? = some (pval xs[i])) → (∀ i (h : i < ys.length), Y[n + i]? = some (pval ys[i])) → (Op.eqFields (d + 1) X Y fs).run P w = .ok (decide (xs = ys)) w
  | [], l, n, xs, ys, X, Y, hf, hx, hy, _, _ => by
    simp [fieldsPlain] at hf; subst hf
    cases xs <;> simp [KindsOk] at hx
    cases ys <;> simp [KindsOk] at hy
    rfl
  | f :: fs, l, n, xs, ys, X, Y, hf, hx, hy, hX, hY => by
    obtain ⟨p, ps, rfl, h1, h2, h3, h4⟩ := fieldsPlain_cons hf
    cases xs with
    | nil => simp [KindsOk] at hx
    | cons x xs =>
      cases ys with
      | nil => simp [KindsOk] at hy
      | cons y ys =>
        have a1 := part_plain h4 (o := f.offset) (cs := X) (v := pval x) (by rw [h2]; have := hX 0 (by simp); simpa only [Nat.add_zero, List.getElem_cons_zero] using this) w
        have a2 := part_plain h4 (o := f.offset) (cs := Y) (v := pval y) (by rw [h2]; have := hY 0 (by simp); simpa only [Nat.add_zero, List.getElem_cons_zero] using this) w
        have ih := eqFields_plain d w fs ps (n + 1) xs ys X Y h3 hx.2 hy.2 (fun i h => by have := hX (i + 1) (by simpa using h); rw [show n + 1 + i = n + (i + 1) by omega]; simpa using this)
          (fun i h => by have := hY (i + 1) (by simpa using h); rw [show n + 1 + i = n + (i + 1) by omega]; simpa using this)
        simp only [Op.eqFields, h1, ne_eq, not_false_eq_true, if_true, Sem.run_bind, a1, a2, Result.andThen_ok, equal_plain h4 hx.1 hy.1 d w]
        by_cases he : x = y
        · simp [he, ih]
        · simp [he]
structure EqLaw (P : Program) (t : TypeId) {κ : Type} [DecidableEq κ] (ak : κ → AV) where
  val : κ → Value
  inv : ∀ C k x, VRel C (ak k) x → x = val k
  eql : ∀ k k' w, (binOp .eql t (val k) (val k')).run P w = .ok (.bool (decide (k = k'))) w
  neq : ∀ k k' w, (binOp .neq t (val k) (val k')).run P w = .ok (.bool (!decide (k = k'))) w
  guard : ∀ op x y k k' w, (eqGuard op t x y (val k) (val k')).run P w = .ok () w
section
variable {κ : Type} [DecidableEq κ]
theorem kindsOk_inv {C : Ctx} : ∀ {l : List PK} {vs : List AV} (_ : KindsOk l vs) (X : List Value), X.length = vs.length → (∀ i (h : i < vs.length) (h' : i < X.length), VRel C vs[i] X[i]) → X = vs.map pval
  | [], [], _, X, hl, _ => by simp at hl; simp [hl]
  | p :: ps, v :: vs, h, X, hl, hr => by
    cases X with
    | nil => simp at hl
    | cons x X =>
      have e1 := PK.inv h.1 (hr 0 (by simp) (by simp))
      have e2 := kindsOk_inv (C := C) h.2 X (by simpa using hl) (fun i a b => by have := hr (i + 1) (by simpa using a) (by simpa using b); simpa only [List.getElem_cons_succ] using this)
      simp only [List.map_cons, e2]; exact congrArg (· :: _) (by simpa using e1)
  | [], _ :: _, h, _, _, _ => h.elim
  | _ :: _, [], h, _, _, _ => h.elim
theorem kindsOk_get : ∀ {l : List PK} {vs : List AV} (_ : KindsOk l vs) (i : Nat) (h : i < vs.length), ∃ p, PK.ok p vs[i]
  | [], [], _, i, h => absurd h (by simp)
  | p :: ps, v :: vs, h, 0, _ => ⟨p, h.1⟩
  | p :: ps, v :: vs, h, i + 1, hi => by simpa using kindsOk_get h.2 i (by simpa using hi)
  | [], _ :: _, h, _, _ => h.elim
  | _ :: _, [], h, _, _ => h.elim
theorem plain_inv {l : List PK} {cs : List AV} (hk : KindsOk l cs) (C : Ctx) (x : Value) (h : VRel C (.agg cs) x) : x = .agg (cs.map pval).toArray := by
  cases h with
  | agg _ vs hsz hrel =>
    have := kindsOk_inv (C := C) hk vs.toList (by simpa using hsz) (fun i a b => by simpa using hrel i a)
    rw [← this]
theorem plain_equal {t : TypeId} {l : List PK} (h : PlainT P t l) {xs ys : List AV} (hx : KindsOk l xs) (hy : KindsOk l ys) (w : World) (b : Bool) (hb : b = true ↔ xs = ys) :
    (Op.equalIn 10000 t (.agg (xs.map pval).toArray) (.agg (ys.map pval).toArray)).run P w = .ok b w := by
  rw [show (10000 : Nat) = 9998 + 1 + 1 from rfl, run_equalIn_agg w (9998 + 1) t _ _ h.und h.held]
  rw [eqFields_plain 9998 w _ l 0 xs ys _ _ h.fields hx hy (fun i hi => by simp [hi]) (fun i hi => by simp [hi])]
  congr 1
  rw [Bool.eq_iff_iff, hb]; simp
def plainEq {t : TypeId} {l : List PK} (h : PlainT P t l) (cells : κ → List AV) (hk : ∀ k, KindsOk l (cells k)) (inj : ∀ k k', cells k = cells k' → k = k') : EqLaw P t (fun k => .agg (cells k)) where
  val k := .agg ((cells k).map pval).toArray
  inv C k x hx := plain_inv (hk k) C x hx
  eql k k' w := by rw [run_eql_struct, plain_equal h (hk k) (hk k') w (decide (k = k')) (by simp; exact ⟨fun e => e ▸ rfl, inj k k'⟩)]; rfl
  neq k k' w := by rw [run_neq_struct, plain_equal h (hk k) (hk k') w (decide (k = k')) (by simp; exact ⟨fun e => e ▸ rfl, inj k k'⟩)]; rfl
  guard op x y k k' w := run_eqGuard_agg w op t x y _ _ h.guard
theorem sameBits_plain {p : PK} {v : AV} (h : p.ok v) (n : Nat) : Instr.sameBits n (pval v) (pval v) = true := by
  cases p <;> cases v <;> simp [PK.ok] at h
  · rename_i s; exact MapKept.sameBits_self (d := .string) (k := .string ⟨s.toArray⟩) trivial n
  · rename_i k k' m; exact MapKept.sameBits_self (d := .int k) (k := .int k' m) (by subst h; rfl) n
  · rename_i b; exact MapKept.sameBits_self (d := .bool) (k := .bool b) trivial n
theorem checkFields_plain (e : Bool) (d : Nat) (w : World) : ∀ (fs : List Field) (l : List PK) (n : Nat) (xs : List AV) (X : Array Value), fieldsPlain P n fs = some l → KindsOk l xs → (∀ i (h : i < xs.length), X[n + i]? = some (pval xs[i])) →
    (forIn (m := Sem) fs PUnit.unit fun f _ => do
      if f.name ≠ "_" then do
        let x ← part f.type X f.offset
        Instr.checkKey e (d + 1) f.type x
        pure (ForInStep.yield PUnit.unit)
      else pure (ForInStep.yield PUnit.unit)).run P w = .ok PUnit.unit w
  | [], _, _, _, _, _, _, _ => rfl
  | f :: fs, l, n, xs, X, hf, hx, hX => by
    obtain ⟨p, ps, rfl, h1, h2, h3, h4⟩ := fieldsPlain_cons hf
    cases xs with
    | nil => simp [KindsOk] at hx
    | cons x xs =>
      have a1 := part_plain h4 (o := f.offset) (cs := X) (v := pval x) (by rw [h2]; have := hX 0 (by simp); simpa only [Nat.add_zero, List.getElem_cons_zero] using this) w
      have ih := checkFields_plain e d w fs ps (n + 1) xs X h3 hx.2 (fun i h => by have := hX (i + 1) (by simpa using h); rw [show n + 1 + i = n + (i + 1) by omega]; simpa using this)
      have a2 : (Instr.checkKey e (d + 1) f.type (pval x)).run P w = .ok () w := by
        have hok := hx.1
        cases p <;> cases x <;> simp [PK.ok] at hok
        · rename_i s; exact MapKept.run_checkKey h4 (d := .string) (k := .string ⟨s.toArray⟩) trivial e d
        · rename_i k k' m; exact MapKept.run_checkKey h4 (d := .int k) (k := .int k' m) (by subst hok; rfl) e d
        · rename_i b; exact MapKept.run_checkKey h4 (d := .bool) (k := .bool b) trivial e d
      simp only [List.forIn_cons, h1, ne_eq, not_false_eq_true, if_true, Sem.run_bind, a1, a2, Result.andThen_ok, Sem.run_pure]
      exact ih
def plainKey {t : TypeId} {l : List PK} (h : PlainT P t l) (cells : κ → List AV) (hk : ∀ k, KindsOk l (cells k)) (inj : ∀ k k', cells k = cells k' → k = k') : KeyLaw P t (fun k => .agg (cells k)) where
  val k := .agg ((cells k).map pval).toArray
  inv C k x hx := plain_inv (hk k) C x hx
  rel C k := .agg _ _ (by simp) (fun i hi => by
    obtain ⟨p, hp⟩ := kindsOk_get (hk k) i hi
    simpa using PK.rel (C := C) hp)
  ck e k w := by
    have := checkFields_plain (P := P) e 9998 w _ l 0 (cells k) ((cells k).map pval).toArray h.fields (hk k) (fun i hi => by simp [hi])
    rw [show (10000 : Nat) = 9998 + 1 + 1 from rfl]
    unfold Instr.checkKey
    simp only [Sem.run_bind, run_underlying h.und, Result.andThen_ok]
    rw [← Array.forIn_toList]
    have h2 := this
    simp at h2 ⊢
    rw [h2]; rfl
  find k mes ks hm w := by
    have hq : ∀ k k', (Op.equal t (.agg ((cells k).map pval).toArray) (.agg ((cells k').map pval).toArray)).run P w = .ok (decide (k' = k)) w := fun k k' => by
      show (Op.equalIn 10000 t _ _).run P w = _
      exact plain_equal h (hk k) (hk k') w _ (by simp; exact ⟨fun e => e ▸ rfl, fun e => (inj k k' e).symm⟩)
    cases hms : mes with
    | nil =>
      subst hms
      have : ks = [] := by simpa using hm.symm
      subst this
      exact .inr ⟨by simp, by simp [Instr.findKey, run_underlying h.und, Instr.findNow]⟩
    | cons e es =>
      have hnow : Instr.findNow (.struct (P.fieldsOf t)) (.agg ((cells k).map pval).toArray) mes 0 = none := by rw [hms]; simp [Instr.findNow, Instr.sameNow]
      rw [← hms]
      have hrun : (Instr.findKey t (.agg ((cells k).map pval).toArray) mes).run P w = (Instr.findAsking t (.agg ((cells k).map pval).toArray) mes 0).run P w := by
        simp [Instr.findKey, run_underlying h.und, hnow]
      have := findAsking_of t (fun k => .agg ((cells k).map pval).toArray) w hq k mes ks 0 hm
      simp only [Nat.zero_add] at this
      rw [hrun]; exact this
  same k := by
    show Instr.sameBits (9999 + 1) _ _ = true
    simp only [Instr.sameBits, beq_self_eq_true, Bool.true_and, List.all_eq_true]
    rintro ⟨x, y⟩ hxy
    obtain ⟨i, hi, he⟩ := List.getElem_of_mem hxy
    simp at hi he
    obtain ⟨p, hp⟩ := kindsOk_get (hk k) i hi
    rw [← he.1, ← he.2]
    exact sameBits_plain hp _
theorem AOp_neq_law {x y : Operand} {t t' : TypeId} {ak : κ → AV} (L : EqLaw P t ak) (k1 k2 : κ) (hx : st.opd x = ak k1) (hy : st.opd y = ak k2) (k : K (.bool (!decide (k1 = k2))) st.heap) : AOp P ro ⟨dst, .binOp .neq t x y t', ty, pos, after, guard⟩ K st :=
  AOp_pure _ (fun c => by simp) (fun C a _ _ hs => by
    have h1 := hs.opd x
    have h2 := hs.opd y
    rw [hx] at h1
    rw [hy] at h2
    refine ⟨_, ?_, .bool _⟩
    simp only [execOp, L.inv C _ _ h1, L.inv C _ _ h2, Sem.run_bind, L.guard, Result.andThen_ok, L.neq]
    rfl) k
end
structure ExtCmp (P : Program) (g : Nat) : Prop where
  ex : ∃ fn, P.funcs[g]? = some fn ∧ (fn.name == "runtime.NumGoroutine") = false ∧ fn.body.isNone = true ∧ Extern.findNext fn = none ∧ Extern.find fn = some Extern.BytealgCompare.compare
theorem AOp_cmpstring {g : Nat} {x y : Operand} {ats : Array TypeId} (a b : List UInt8) (hg : ExtCmp P g) (hx : st.opd x = .str a) (hy : st.opd y = .str b) (k : K (.int .i64 (Lib.compareBytes a b)) st.heap) :
    AOp P ro ⟨dst, .call { callee := .value (.func g), args := #[x, y], argTypes := ats }, ty, pos, after, guard⟩ K st :=
  AOp_pure _ (fun c => by simp) (fun C act _ _ hs => by
    have h1 := hs.opd x
    have h2 := hs.opd y
    rw [hx] at h1
    rw [hy] at h2
    obtain ⟨fn, f1, f2, f3, f4, f5⟩ := hg.ex
    refine ⟨.int .i64 (Lib.compareBytes a b), ?_, .int _ _⟩
    have hc := run_callFunc_extern f1 f2 f3 f4 f5 #[.string ⟨a.toArray⟩, .string ⟨b.toArray⟩] C.w
    rw [Lib.run_compareString] at hc
    have he : act.eval (.func g) = .func (.func g) #[] #[] := rfl
    simp [execOp, resolve, Deferred.ofValue, he, invoke, h1.str_inv, h2.str_inv, hc]) k
end Ab
namespace Ab
open Go
variable {P : Program} {ro : Option Nat} {H0 : List AObj} {Q : Exit → ASt → Prop} {st : ASt} {dst : Option Tmp} {ty : TypeId} {pos : String} {after : Array Edge} {guard : Option (Nat × Bool)} {K : AV → List AObj → Prop}
theorem AW_reserve {c : Code} (n : Nat) (h : AW P ro H0 c Q { st with heap := st.heap ++ List.replicate n .dead }) : AW P ro H0 c Q st := by
  intro C0 C a h0 hg0 hx hg hH hs
  have hnew : ∀ k (o : AObj), (C.H ++ List.replicate n AObj.dead)[k]? = some o → o.kind ≠ 6 → C.H[k]? = some o := fun k o hk ho => by
    rcases Nat.lt_or_ge k C.H.length with h' | h'
    · rw [List.getElem?_append_left h'] at hk; exact hk
    · rw [List.getElem?_append_right h', List.getElem?_replicate] at hk
      split at hk
      · injection hk with hk; subst hk; exact absurd rfl ho
      · cases hk
  have hold : ∀ k (o : AObj), C.H[k]? = some o → (C.H ++ List.replicate n AObj.dead)[k]? = some o := fun k o hk => by
    rw [List.getElem?_append_left (List.getElem?_eq_some_iff.1 hk).1]; exact hk
  have he : Ext C { C with H := C.H ++ List.replicate n .dead } :=
    ⟨rfl, rfl, rfl, Nat.le_refl _, fun _ => Nat.le_refl _, fun _ _ _ => rfl, fun _ _ _ => rfl, fun k o hk ho => .inr ⟨k, o, hnew k o hk ho, ho, rfl⟩,
     fun k o hk => ⟨o, hold k o hk, fun _ => rfl⟩, fun _ _ _ _ _ => rfl, fun k e sz len hk => ⟨len, hold k _ hk, Nat.le_refl _, fun _ => ⟨rfl, fun cur hc => ⟨cur, hc, rfl⟩⟩⟩, fun k ver es hk => ⟨ver, es, hold k _ hk, Nat.le_refl _, fun _ => ⟨rfl, rfl⟩⟩⟩
  have hg' : Good { C with H := C.H ++ List.replicate n .dead } := by
    refine ⟨fun k o hk => ?_, fun k o hk ho => hg.lt k o (hnew k o hk ho) ho, fun j k o o' hj hk ho ho' => hg.inj j k o o' (hnew j o hj ho) (hnew k o' hk ho') ho ho', hg.fresh⟩
    by_cases ho : o.kind = 6
    · cases o <;> first | trivial | (simp [AObj.kind] at ho)
    · exact ORel.ext he rfl rfl rfl (hg.obj k o (hnew k o hk ho))
  exact h C0 { C with H := C.H ++ List.replicate n .dead } a h0 hg0 (hx.trans he) hg' (by show C.H ++ _ = _; rw [hH]) ⟨hs.toSRel.ext he, hs.defok.ext he⟩
theorem step_at {C : Ctx} (hg : Good C) (n : Nat) (hn : C.H[n]? = some .dead) (o : AObj) (ob : Obj) (w' : World) (hw : w'.heap = C.w.heap.push ob) (so : SameOut C.w w') (hk : o.kind ≠ 6)
    {C' : Ctx} (hC : C' = ⟨C.S, fun k => if k = n then C.w.heap.size else C.μ k, C.H.set n o, w'⟩) (hor : Ext C C' → ORel C' n o) : Good C' ∧ Ext C C' := by
  subst hC
  have hnl := (List.getElem?_eq_some_iff.1 hn).1
  have hne : ∀ k (o' : AObj), C.H[k]? = some o' → o'.kind ≠ 6 → k ≠ n := fun k o' h hd e => by rw [e, hn] at h; injection h with h; subst h; exact hd rfl
  have hset : ∀ k, k ≠ n → (C.H.set n o)[k]? = C.H[k]? := fun k h => by rw [List.getElem?_set, if_neg (Ne.symm h)]
  have hself : (C.H.set n o)[n]? = some o := by rw [List.getElem?_set, if_pos rfl]; simp [hnl]
  have hmu : ∀ k, k ≠ n → (if k = n then C.w.heap.size else C.μ k) = C.μ k := fun k h => if_neg h
  have hheap : ∀ b, b < C.w.heap.size → w'.heap[b]? = C.w.heap[b]? := fun b hb => by rw [hw]; exact get_push _ _ _ hb
  have hnew : ∀ k (o' : AObj), (C.H.set n o)[k]? = some o' → (k ≠ n ∧ C.H[k]? = some o') ∨ (k = n ∧ o' = o) := fun k o' h => by
    by_cases e : k = n
    · subst e; rw [hself] at h; exact .inr ⟨rfl, by injection h with h; exact h.symm⟩
    · rw [hset k e] at h; exact .inl ⟨e, h⟩
  have he : Ext C ⟨C.S, fun k => if k = n then C.w.heap.size else C.μ k, C.H.set n o, w'⟩ := by
    refine ⟨so.os, so.tape, so.output, ?_, fun _ => Nat.le_refl _, ?_, ?_, ?_, ?_, ?_, ?_, ?_⟩
    · show C.w.heap.size ≤ w'.heap.size; rw [hw]; simp
    · intro b q hq; exact cell_eq (hheap b (hg.S_lt hq))
    · intro b hb _; exact hheap b hb
    · intro k o' hk' hd
      rcases hnew k o' hk' with ⟨h1, h2⟩ | ⟨h1, h2⟩
      · exact .inr ⟨k, o', h2, hd, (hmu k h1).symm⟩
      · left; show C.w.heap.size ≤ if k = n then C.w.heap.size else C.μ k; rw [if_pos h1]; exact Nat.le_refl _
    · intro k o' h
      by_cases e : k = n
      · subst e; rw [hn] at h; injection h with h; subst h; exact ⟨o, hself, fun hd => absurd rfl hd⟩
      · exact ⟨o', by show (C.H.set n o)[k]? = _; rw [hset k e]; exact h, fun _ => rfl⟩
    · intro k o' h _ h6; exact hmu k (hne k o' h h6)
    · intro k e sz len h
      have hk := hne k _ h (by simp [AObj.kind])
      exact ⟨len, by show (C.H.set n o)[k]? = _; rw [hset k hk]; exact h, Nat.le_refl _, fun _ => ⟨hmu k hk, fun cur hc => ⟨cur, by rw [hheap _ (hg.lt k _ h (by simp [AObj.kind]))]; exact hc, rfl⟩⟩⟩
    · intro k ver es h
      have hk := hne k _ h (by simp [AObj.kind])
      exact ⟨ver, es, by show (C.H.set n o)[k]? = _; rw [hset k hk]; exact h, Nat.le_refl _, fun _ => ⟨rfl, hheap _ (hg.lt k _ h (by simp [AObj.kind]))⟩⟩
  refine ⟨⟨?_, ?_, ?_, ?_⟩, he⟩
  · intro k o' h
    rcases hnew k o' h with ⟨h1, h2⟩ | ⟨h1, h2⟩
    · by_cases hd : o'.kind = 6
      · cases o' <;> first | trivial | (simp [AObj.kind] at hd)
      · exact ORel.ext he (hmu k h1) (hheap _ (hg.lt k o' h2 hd)) rfl (hg.obj k o' h2)
    · subst h1; subst h2; exact hor he
  · intro k o' h hd
    show (if k = n then C.w.heap.size else C.μ k) < w'.heap.size
    rw [hw]
    rcases hnew k o' h with ⟨h1, h2⟩ | ⟨h1, h2⟩
    · rw [if_neg h1]; have := hg.lt k o' h2 hd; simp; omega
    · rw [if_pos h1]; simp
  · intro j k o1 o2 h1 h2 d1 d2 hmm
    simp only at hmm
    rcases hnew j o1 h1 with ⟨a1, a2⟩ | ⟨a1, a2⟩ <;> rcases hnew k o2 h2 with ⟨b1, b2⟩ | ⟨b1, b2⟩
    · rw [hmu j a1, hmu k b1] at hmm; exact hg.inj j k o1 o2 a2 b2 d1 d2 hmm
    · rw [hmu j a1, if_pos b1] at hmm; have := hg.lt j o1 a2 d1; omega
    · rw [hmu k b1, if_pos a1] at hmm; have := hg.lt k o2 b2 d2; omega
    · omega
  · intro b hb
    exact hg.fresh b (by rw [hw] at hb; simp at hb; omega)
theorem AOp_allocAt {t : TypeId} (n : Nat) (zs : List Value) (hn : st.heap[n]? = some .dead) (hz : ZeroOf P t zs) (hall : ∀ c, c ∈ zs → (ofVal c).isCell = true)
    (k : K (.ptr n 0) (st.heap.set n (.cells (zs.map ofVal)))) : AOp P ro ⟨dst, .alloc t, ty, pos, after, guard⟩ K st :=
  AOp_value (fun ρ => semAt_of (fun c => by simp) ro ρ) fun C a hg hH hs => by
    obtain ⟨z, hzr, hzc⟩ := hz.run C.w
    subst hzc
    have hnC : C.H[n]? = some .dead := by rw [hH]; exact hn
    have hnl := (List.getElem?_eq_some_iff.1 hnC).1
    obtain ⟨hg', he⟩ := step_at hg n hnC (.cells (z.cells.toList.map ofVal)) (.cells z.cells t) (C.w.alloc (.cells z.cells t)) rfl ⟨rfl, rfl, rfl⟩ (by simp [AObj.kind]) rfl (fun he => by
      refine ⟨z.cells, t, ?_, ?_, ?_, ?_⟩
      · simp only [if_true]; exact heap_alloc_new _ _
      · simp
      · simp; exact hg.fresh _ (Nat.le_refl _)
      · intro i hi hi'
        have := VRel.ofVal (C := { S := C.S, μ := fun k => if k = n then C.w.heap.size else C.μ k, H := C.H.set n (AObj.cells (z.cells.toList.map ofVal)), w := C.w.alloc (.cells z.cells t) }) z.cells[i]
        refine ⟨by simpa using this, ?_⟩
        have := hall z.cells[i] (by simp)
        simpa using this)
    refine ⟨_, .pointer (some ⟨C.w.heap.size, 0, none⟩), .ptr n 0, ?_, hg', he, ?_, ?_⟩
    · simp [execOp, Instr.alloc, newVar, newRow, hzr]
    · have := VRel.ptr (C := { S := C.S, μ := fun k => if k = n then C.w.heap.size else C.μ k, H := C.H.set n (AObj.cells (z.cells.toList.map ofVal)), w := C.w.alloc (.cells z.cells t) }) n 0 ⟨.cells (z.cells.toList.map ofVal), by simp [hnl], rfl⟩
      simpa using this
    · rw [← hH] at k; exact k
def beqB : List Bool → List Bool → Bool
  | [], [] => true
  | true :: l, true :: l' => beqB l l'
  | false :: l, false :: l' => beqB l l'
  | _, _ => false
def stg : List (List Bool × List AObj) → List Bool → List AObj
  | [], _ => []
  | p :: l, s => match beqB p.1 s with | true => p.2 | false => stg l s
def DAll (P : Program) (ro : Option Nat) (ops : Array Oper) (fin : List AV) (stages : List Bool → List AObj) (eff : List (Option Nat)) (vals : List AV) : List (Nat × List Bool × List Bool) → Prop
  | [] => True
  | p :: ps => DStep P ro ops fin stages eff vals p.1 p.2.1 p.2.2 ∧ DAll P ro ops fin stages eff vals ps
theorem DAll.mem {ops : Array Oper} {fin : List AV} {stages : List Bool → List AObj} {eff : List (Option Nat)} {vals : List AV} : ∀ {ps : List (Nat × List Bool × List Bool)}, DAll P ro ops fin stages eff vals ps →
    ∀ p, p ∈ ps → DStep P ro ops fin stages eff vals p.1 p.2.1 p.2.2
  | [], _, p, hp => by cases hp
  | q :: qs, h, p, hp => by
    rcases List.mem_cons.1 hp with rfl | hp
    · exact h.1
    · exact DAll.mem h.2 p hp
def masksOk (n : Nat) : List (Nat × List Bool × List Bool) → Bool
  | [] => true
  | p :: ps => p.2.2.length == n && masksOk n ps
theorem masksOk_mem {n : Nat} : ∀ {ps : List (Nat × List Bool × List Bool)}, masksOk n ps = true → ∀ p, p ∈ ps → p.2.2.length = n
  | [], _, p, hp => by cases hp
  | q :: qs, h, p, hp => by
    simp only [masksOk, Bool.and_eq_true, beq_iff_eq] at h
    rcases List.mem_cons.1 hp with rfl | hp
    · exact h.1
    · exact masksOk_mem h.2 p hp
theorem AW_drawL {id : Nat} {ops : Array Oper} (stl : List (List Bool × List AObj)) (eff : List (Option Nat)) (m : Nat) (pairs : List (Nat × List Bool × List Bool)) (vals : List AV)
    (hm : P.follows .mixedOrders = true) (hok : drawOk ops eff m pairs = true) (hlen : vals.length = ops.size) (n : Nat) (hn : st.slots.length = n) (hmask : masksOk n pairs = true) (h0 : st.heap = stg stl (List.replicate m false))
    (hstep : DAll P ro ops (putAll ops.toList vals st.slots) (stg stl) eff vals pairs) (hQ : Q .normal { st with slots := putAll ops.toList vals st.slots, heap := stg stl (List.replicate m true) }) : AW P ro H0 (.region id ops true) Q st :=
  AW_draw vals (stg stl) eff m pairs _ rfl hm hok hlen (fun p hp => by rw [hn]; exact masksOk_mem hmask p hp) h0 (fun p hp => hstep.mem p hp) hQ
end Ab
namespace Ab
open Go
theorem hgetE {G L : List AObj} {x : AObj} {N : Nat} (h : G.length = N) : (G ++ (x :: L))[N]? = some x := by subst h; exact hget0
theorem hgetEN {G L : List AObj} {x : AObj} {N : Nat} (h : G.length = N) (i : Nat) (hi : L[i]? = some x) : (G ++ L)[N + i]? = some x := by subst h; exact hgetN i hi
theorem hsetE0 {G L : List AObj} {x : AObj} {N : Nat} (h : G.length = N) : (G ++ L).set N x = G ++ L.set 0 x := by subst h; exact hset0
theorem hsetEN {G L : List AObj} {x : AObj} {N i : Nat} (h : G.length = N) : (G ++ L).set (N + i) x = G ++ L.set i x := by subst h; exact hsetN i
theorem takeE0 {G L : List AObj} {N : Nat} (h : G.length = N) : (G ++ L).take N = G := by subst h; exact takeA0
theorem takeEN {G L : List AObj} {N i : Nat} (h : G.length = N) : (G ++ L).take (N + i) = G ++ L.take i := by subst h; exact takeAN i
theorem outok_hp {A B X L : List AObj} {m : Nat} (j : Nat) (hl : A.length = B.length) (hsc : ∀ o, o ∈ B → OScoped B.length o) (hm : m = (B ++ X).length + j) (hj : j ≤ L.length) (h : ∀ o, o ∈ L.take j → OScoped m o) :
    OutOk (A ++ X) ((B ++ X) ++ L) m := by
  subst hm
  refine ⟨by simp; omega, by simp; omega, fun k hk => ?_⟩
  rcases Nat.lt_or_ge k B.length with h' | h'
  · right
    refine ⟨B[k], by rw [List.append_assoc, List.getElem?_append_left h', List.getElem?_eq_getElem h'], (hsc _ (by simp)).le (by simp; omega)⟩
  · rcases Nat.lt_or_ge k (B ++ X).length with h2 | h2
    · left
      refine ⟨by simp at h2 ⊢; omega, ?_⟩
      rw [List.getElem?_append_left h2, List.getElem?_append_right h', List.getElem?_append_right (by omega), hl]
    · right
      have hl2 : k - (B ++ X).length < L.length := by omega
      refine ⟨L[k - (B ++ X).length], by rw [List.getElem?_append_right h2, List.getElem?_eq_getElem hl2], h _ ?_⟩
      rw [List.mem_take_iff_getElem]
      exact ⟨k - (B ++ X).length, by omega, rfl⟩
theorem weak_hp {A B X L : List AObj} {slots slots' : List AV} {m : Nat} (j : Nat) (hl : A.length = B.length) (hsc : ∀ o, o ∈ B → OScoped B.length o) (hm : m = (B ++ X).length + j) (hs : SlotsOk m slots slots') (hj : j ≤ L.length) (ho : ∀ o, o ∈ L.take j → OScoped m o) :
    Weakens (A ++ X) ⟨slots, (B ++ X) ++ L⟩ ⟨slots', (B ++ X) ++ L.take j⟩ :=
  ⟨m, by subst hm; exact (takeAN j).symm, outok_hp j hl hsc hm hj ho, hs⟩
def putD : List (Option Nat) → List AV → List AV → List AV
  | some d :: ds, v :: vs, l => putD ds vs (l.set d v)
  | none :: ds, _ :: vs, l => putD ds vs l
  | _, _, l => l
theorem putAll_putD : ∀ (os : List Oper) (vals l : List AV), putAll os vals l = putD (os.map (·.dst)) vals l
  | [], _, _ => rfl
  | o :: os, [], l => by simp only [putAll, List.map_cons]; cases o.dst <;> rfl
  | o :: os, v :: vs, l => by
    simp only [putAll, List.map_cons]
    cases h : o.dst with
    | none => simp only [putD]; exact putAll_putD os vs l
    | some d => simp only [putD]; exact putAll_putD os vs _
variable {P : Program} {ro : Option Nat} {H0 : List AObj} {Q : Exit → ASt → Prop} {st : ASt}
def DOne (P : Program) (ro : Option Nat) (ops : Array Oper) (i : Nat) (isEff : Bool) (S : List AV) (H : List AObj) (v : AV) (H2 : List AObj) : Prop :=
  ∀ o, ops[i]? = some o →
    (AWant ops o ⟨S, H⟩ = some true ∧ AOp P ro o (fun v' h' => v' = v ∧ h' = H2) ⟨S, H⟩) ∨
    (AWant ops o ⟨S, H⟩ = some false ∧ v = .lit undef ∧ isEff = false)
theorem DOne_do {ops : Array Oper} {i : Nat} {e : Bool} {S : List AV} {H : List AObj} {v : AV} {H2 : List AObj} {o : Oper} (ho : ops[i]? = some o) (hw : AWant ops o ⟨S, H⟩ = some true)
    (h : AOp P ro o (fun v' h' => v' = v ∧ h' = H2) ⟨S, H⟩) : DOne P ro ops i e S H v H2 := fun o' ho' => by rw [ho] at ho'; injection ho' with ho'; subst ho'; exact .inl ⟨hw, h⟩
theorem DOne_no {ops : Array Oper} {i : Nat} {S : List AV} {H : List AObj} {v : AV} {H2 : List AObj} {o : Oper} (ho : ops[i]? = some o) (hw : AWant ops o ⟨S, H⟩ = some false)
    (hv : v = .lit undef) : DOne P ro ops i false S H v H2 := fun o' ho' => by rw [ho] at ho'; injection ho' with ho'; subst ho'; exact .inr ⟨hw, hv, rfl⟩
def DAll2 (P : Program) (ro : Option Nat) (ops : Array Oper) (fin : List AV) (stl : List (List Bool × List AObj)) (eff : List (Option Nat)) (vals : List AV) : List (Nat × List Bool × List Bool) → Prop
  | [] => True
  | p :: ps => DOne P ro ops p.1 (eff.getD p.1 none).isSome (keepM p.2.2 fin) (stg stl p.2.1) (vals.getD p.1 .junk) (stg stl (match eff.getD p.1 none with | some k => p.2.1.set k true | none => p.2.1)) ∧ DAll2 P ro ops fin stl eff vals ps
theorem DAll2.all {ops : Array Oper} {fin : List AV} {stl : List (List Bool × List AObj)} {eff : List (Option Nat)} {vals : List AV} : ∀ {ps : List (Nat × List Bool × List Bool)}, DAll2 P ro ops fin stl eff vals ps →
    DAll P ro ops fin (stg stl) eff vals ps
  | [], _ => trivial
  | p :: ps, h => by
    refine ⟨fun o ho => ?_, h.2.all⟩
    rcases h.1 o ho with ⟨h1, h2⟩ | ⟨h1, h2, h3⟩
    · exact .inl ⟨h1, h2⟩
    · refine .inr ⟨h1, h2, ?_⟩
      unfold effOf; cases he : eff.getD p.1 none with
      | none => rfl
      | some k => rw [he] at h3; cases h3
theorem AW_drawD {id : Nat} {ops : Array Oper} (dsts : List (Option Nat)) (stl : List (List Bool × List AObj)) (eff : List (Option Nat)) (m : Nat) (pairs : List (Nat × List Bool × List Bool)) (vals : List AV)
    (hm : P.follows .mixedOrders = true) (hok : drawOk ops eff m pairs = true) (hlen : vals.length = ops.size) (n : Nat) (hn : st.slots.length = n) (hmask : masksOk n pairs = true) (hd : ops.toList.map (·.dst) = dsts) (h0 : st.heap = stg stl (List.replicate m false))
    (hstep : DAll2 P ro ops (putD dsts vals st.slots) stl eff vals pairs) (hQ : Q .normal { st with slots := putD dsts vals st.slots, heap := stg stl (List.replicate m true) }) : AW P ro H0 (.region id ops true) Q st := by
  subst hd
  rw [← putAll_putD] at hstep hQ
  exact AW_drawL stl eff m pairs vals hm hok hlen n hn hmask h0 hstep.all hQ
def keepG : List Nat → List AV → List AV
  | [], l => l.map fun _ => .junk
  | 0 :: ks, v :: l => v :: keepG ks l
  | (k + 1) :: ks, _ :: l => .junk :: keepG (k :: ks) l
  | _ :: _, [] => []
def maskG : Nat → List Nat → List Bool
  | 0, _ => []
  | n + 1, [] => false :: maskG n []
  | n + 1, 0 :: ks => true :: maskG n ks
  | n + 1, (k + 1) :: ks => false :: maskG n (k :: ks)
theorem maskG_length : ∀ (n : Nat) (ks : List Nat), (maskG n ks).length = n
  | 0, _ => by simp [maskG]
  | n + 1, [] => by simp [maskG, maskG_length n]
  | n + 1, 0 :: ks => by simp [maskG, maskG_length n]
  | n + 1, (k + 1) :: ks => by simp [maskG, maskG_length n]
theorem keepM_maskG : ∀ (l : List AV) (ks : List Nat), keepM (maskG l.length ks) l = keepG ks l
  | [], [] => by simp [maskG, keepM, keepG]
  | [], _ :: _ => by simp [maskG, keepM, keepG]
  | v :: l, [] => by
    have := keepM_maskG l []
    simp only [List.length_cons, maskG, keepM, this]; simp [keepG]
  | v :: l, 0 :: ks => by simp only [List.length_cons, maskG, keepM, keepG, keepM_maskG l ks]
  | v :: l, (k + 1) :: ks => by simp only [List.length_cons, maskG, keepM, keepG, keepM_maskG l (k :: ks)]
theorem putD_length : ∀ (ds : List (Option Nat)) (vs l : List AV), (putD ds vs l).length = l.length
  | some d :: ds, v :: vs, l => by rw [putD, putD_length ds vs]; simp
  | none :: ds, _ :: vs, l => by rw [putD, putD_length ds vs]
  | [], _, l => by simp [putD]
  | some _ :: _, [], l => by simp [putD]
  | none :: _, [], l => by simp [putD]
def pairsG (n : Nat) (ps : List (Nat × List Bool × List Nat)) : List (Nat × List Bool × List Bool) := ps.map fun p => (p.1, p.2.1, maskG n p.2.2)
theorem pairsG_ok (n : Nat) : ∀ ps, masksOk n (pairsG n ps) = true
  | [] => rfl
  | p :: ps => by
    have := pairsG_ok n ps
    unfold pairsG at this
    simp [pairsG, masksOk, maskG_length, this]
def DAllG (P : Program) (ro : Option Nat) (ops : Array Oper) (fin : List AV) (stl : List (List Bool × List AObj)) (eff : List (Option Nat)) (vals : List AV) : List (Nat × List Bool × List Nat) → Prop
  | [] => True
  | p :: ps => DOne P ro ops p.1 (eff.getD p.1 none).isSome (keepG p.2.2 fin) (stg stl p.2.1) (vals.getD p.1 .junk) (stg stl (match eff.getD p.1 none with | some k => p.2.1.set k true | none => p.2.1)) ∧ DAllG P ro ops fin stl eff vals ps
theorem DAllG.all {ops : Array Oper} {fin : List AV} {stl : List (List Bool × List AObj)} {eff : List (Option Nat)} {vals : List AV} {n : Nat} (hn : fin.length = n) : ∀ {ps : List (Nat × List Bool × List Nat)}, DAllG P ro ops fin stl eff vals ps →
    DAll2 P ro ops fin stl eff vals (pairsG n ps)
  | [], _ => trivial
  | p :: ps, h => ⟨by subst hn; rw [keepM_maskG]; exact h.1, DAllG.all hn h.2⟩
theorem AW_drawE {id : Nat} {ops : Array Oper} (dsts : List (Option Nat)) (stl : List (List Bool × List AObj)) (eff : List (Option Nat)) (m : Nat) (pairs : List (Nat × List Bool × List Nat)) (vals : List AV)
    (hm : P.follows .mixedOrders = true) (n : Nat) (hok : drawOk ops eff m (pairsG n pairs) = true) (hlen : vals.length = ops.size) (hn : st.slots.length = n) (hd : ops.toList.map (·.dst) = dsts) (h0 : st.heap = stg stl (List.replicate m false))
    (hstep : DAllG P ro ops (putD dsts vals st.slots) stl eff vals pairs) (hQ : Q .normal { st with slots := putD dsts vals st.slots, heap := stg stl (List.replicate m true) }) : AW P ro H0 (.region id ops true) Q st :=
  AW_drawD dsts stl eff m (pairsG n pairs) vals hm hok hlen n hn (pairsG_ok n pairs) hd h0 (hstep.all (by rw [putD_length]; exact hn)) hQ
attribute [push_cast] maskG
def idxL : Nat → List AV → List (Nat × AV)
  | _, [] => []
  | k, v :: vs => (k, v) :: idxL (k + 1) vs
theorem afill_row (sz : Nat) : ∀ (vs : List AV) (k : Nat) (done rest : List AV), done.length = k * sz → rest.length = vs.length * sz → (∀ v, v ∈ vs → v.cells.length = sz ∧ (v.isCell || v.isAgg) = true) →
    afill (fun i => some (i * sz, sz)) (done ++ rest) (idxL k vs) = some (done ++ flat vs)
  | [], k, done, rest, _, h2, _ => by
    have : rest = [] := List.eq_nil_of_length_eq_zero (by simpa using h2)
    simp [idxL, afill, this, flat]
  | v :: vs, k, done, rest, h1, h2, h3 => by
    obtain ⟨h4, h5⟩ := h3 v (by simp)
    simp only [List.length_cons, Nat.add_mul, Nat.one_mul] at h2
    have hc : v.cells.length = sz ∧ k * sz + v.cells.length ≤ (done ++ rest).length ∧ (v.isCell || v.isAgg) = true := ⟨h4, by simp; omega, h5⟩
    simp only [idxL, afill]
    have hsp : splice (done ++ rest) (k * sz) v.cells = (done ++ v.cells) ++ rest.drop sz := by
      unfold splice
      rw [← h1, List.take_left, List.append_assoc, List.append_assoc, h4]
      congr 2
      rw [List.drop_append]; simp
    rw [if_pos hc, hsp, afill_row sz vs (k + 1) (done ++ v.cells) (rest.drop sz) (by simp [Nat.add_mul]; omega) (by simp; omega) (fun x hx => h3 x (by simp [hx]))]
    simp [flat]
theorem AOp_buildRow {t e n sz : Nat} {parts : Array (Nat × Operand)} {K : AV → List AObj → Prop} {dst : Option Tmp} {ty : TypeId} {pos : String} {after : Array Edge} {guard : Option (Nat × Bool)} (zs : List Value) (vs : List AV) (ht : SliceT P t e) (hs : SzOf P e sz) (hz : ZeroOf P e zs) (hn : n = vs.length)
    (hp : parts.toList.map (fun p => (p.1, st.opd p.2)) = idxL 0 vs) (hc : ∀ v, v ∈ vs → v.cells.length = sz ∧ (v.isCell || v.isAgg) = true) (hsmall : n * sz ≤ 16777216) (hz0 : zs.length = sz)
    (k : K (.sl .none vs) st.heap) : AOp P ro ⟨dst, .buildSlice t n parts, ty, pos, after, guard⟩ K st := by
  refine AOp_buildSlice zs vs ht hs hz hn _ hp ?_ hsmall hz0 k
  have := afill_row sz vs 0 [] ((List.range (n * sz)).map fun i => (zs.map ofVal).getD (i % zs.length) .junk) (by simp) (by simp [hn]) hc
  simpa using this
end Ab
namespace Ab
open Go
variable {P : Program} {H0 : List AObj} {Q : Exit → ASt → Prop} {st : ASt}
theorem oscoped_amap {κ α : Type} {ak : κ → AV} {av : α → AV} {n ver : Nat} {m : List (κ × α)} (h1 : ∀ k, Scoped n (ak k)) (h2 : ∀ v, Scoped n (av v)) : OScoped n (.map ver (amap ak av m)) := by
  intro e he
  simp only [amap, List.mem_map] at he
  obtain ⟨p, _, rfl⟩ := he
  exact ⟨h1 _, h2 _⟩
theorem outok_round {A B X heap : List AObj} {lp lp' : AObj} {n : Nat} (h1 : A.length = n) (h2 : B.length = n) (hsc : ∀ o, o ∈ B → OScoped n o) (hlp : OScoped n lp') (ht : heap.take (n + 1 + X.length) = B ++ (lp' :: X)) :
    OutOk (A ++ (lp :: X)) heap (n + 1 + X.length) := by
  have hl := congrArg List.length ht
  simp at hl
  refine ⟨by omega, by simp; omega, fun k hk => ?_⟩
  have hget : heap[k]? = (B ++ (lp' :: X))[k]? := by rw [← ht, List.getElem?_take_of_lt hk]
  rw [hget]
  rcases Nat.lt_or_ge k n with h | h
  · right
    have hb : k < B.length := by omega
    exact ⟨B[k], by rw [List.getElem?_append_left hb, List.getElem?_eq_getElem hb], (hsc _ (by simp)).le (by omega)⟩
  · rcases Nat.eq_or_lt_of_le h with h | h
    · right
      subst h
      exact ⟨lp', by rw [← h2]; exact hget0, hlp.le (by omega)⟩
    · left
      obtain ⟨i, rfl⟩ : ∃ i, k = n + (i + 1) := ⟨k - n - 1, by omega⟩
      refine ⟨by simp; omega, ?_⟩
      have e1 : (B ++ (lp' :: X))[n + (i + 1)]? = X[i]? := by rw [List.getElem?_append_right (by omega), h2]; simp
      have e2 : (A ++ (lp :: X))[n + (i + 1)]? = X[i]? := by rw [List.getElem?_append_right (by omega), h1]; simp
      rw [e1, e2]
def iterK (B : List AObj) (lp : AObj) (X : List AObj) (j : Option Code) : Exit → ASt → Prop
  | .normal, st => j = none ∧ ∃ L, st.heap = (B ++ (lp :: X)) ++ L
  | .ret, st => j = some .ret ∧ ∃ L, st.heap = (B ++ (lp :: X)) ++ L
  | .exit k, st => j = some (.exit k) ∧ ∃ L, st.heap = (B ++ (lp :: X)) ++ L
  | _, _ => False
theorem iterK_normal {B : List AObj} {lp : AObj} {X : List AObj} {j : Option Code} (h : j = none ∧ ∃ L, st.heap = (B ++ (lp :: X)) ++ L) : iterK B lp X j .normal st := h
theorem AW_iterE {g : Operand} {ps : Array Tmp} {assign body : Code} {β : Type} {items : List β} {enc : β → List AV} {A : List AObj → Prop} (f : Nat) (caps : List AV) (hit : IterC P f caps items enc A)
    (hb : List β → List AObj) (nx : List β → β → Option Code) (hgv : st.opd g = .fn f caps) (hok : callOk P f = true) (h0 : hb [] = st.heap) (hA : A (st.heap ++ [.loop st.slots .ready none ps assign body])) (n : Nat) (hnl : st.heap.length = n) (hlen : ∀ p, (hb p).length = n)
    (hsc0 : ∀ p o, o ∈ hb p → o ∈ st.heap ∨ OScoped n o) (hps : ∀ x, ps.size = (enc x).length)
    (round : ∀ pre x suf X l N G G', items = pre ++ x :: suf → AllNone nx pre → N = n + 1 + X.length → G = hb pre ++ (.loop st.slots .ready none ps assign body :: X) → G' = hb pre ++ (.loop st.slots .busy none ps assign body :: X) → G.length = N → G'.length = N →
      AW P (some l) G assign (fun e st1 => e = .normal ∧ ∃ L, st1.heap = G ++ L ∧
          AW P (some l) G body (iterK (hb (pre ++ [x])) (.loop st.slots .busy none ps assign body) X (nx pre x)) ⟨st1.slots, G' ++ L⟩)
        ⟨zipPut ps.toList (enc x) st.slots, G⟩)
    (hend : AllNone nx items → Q .normal ⟨st.slots, hb items ++ [.loop st.slots .exhausted none ps assign body]⟩)
    (hleft : ∀ pre x suf c, items = pre ++ x :: suf → AllNone nx pre → nx pre x = some c → match c with
      | .ret => Q .ret ⟨st.slots, hb (pre ++ [x]) ++ [.loop st.slots .exhausted (some .ret) ps assign body]⟩
      | .exit k => Q (.exit k) ⟨st.slots, hb (pre ++ [x]) ++ [.loop st.slots .exhausted (some (.exit k)) ps assign body]⟩
      | _ => False) : AW P none H0 (.rangeFunc g ps assign body) Q st := by
  subst hnl
  intro C0 C a hC0 hg0 hx hg hH hs
  have hscs : ScopedL st.heap.length st.slots := by
    refine ScopedL_get fun j hj => ?_
    have := (hs.slot j hj (by rw [hs.size]; exact hj)).scop
    rw [hH] at this; exact this
  have hsc : ∀ p o, o ∈ hb p → OScoped st.heap.length o := fun p o ho => by
    rcases hsc0 p o ho with h | h
    · obtain ⟨i, hi, rfl⟩ := List.getElem_of_mem h
      have := hg.scop (k := i) (by rw [hH]; exact List.getElem?_eq_getElem hi)
      rw [hH] at this; exact this
    · exact h
  refine AW_iter f caps hit hb nx hgv hok h0 hA hlen hsc0 hps (fun pre x suf X l he hn => ?_) hend hleft C0 C a hC0 hg0 hx hg hH hs
  refine AW_mono (round pre x suf X l _ _ _ he hn rfl rfl rfl (by simp [hlen]; omega) (by simp [hlen]; omega)) ?_
  rintro e st1 ⟨rfl, L, hL, hbody⟩
  have hlp : (hb pre).length = st.heap.length := hlen pre
  refine ⟨rfl, st.slots, none, by rw [hL, List.append_assoc, ← hlp]; exact hget0, ?_⟩
  have hset : st1.heap.set st.heap.length (.loop st.slots .busy none ps assign body) = (hb pre ++ (.loop st.slots .busy none ps assign body :: X)) ++ L := by
    rw [hL, List.append_assoc, ← hlp, hset0]; simp
  rw [hset]
  refine AW_mono hbody fun e st2 hq => ?_
  have hl2 : (hb (pre ++ [x])).length = st.heap.length := hlen _
  have fin : ∀ j, nx pre x = j → (∃ L, st2.heap = (hb (pre ++ [x]) ++ (.loop st.slots .busy none ps assign body :: X)) ++ L) →
      roundFin st.heap.length (st.heap.length + 1 + X.length) ps assign body (fun r H' => r = .bool (nx pre x).isNone ∧ H' = hb (pre ++ [x]) ++ (.loop st.slots (if (nx pre x).isNone then .ready else .done) (nx pre x) ps assign body :: X)) (hb pre ++ (.loop st.slots .ready none ps assign body :: X)) j st2 := by
    rintro j rfl ⟨L2, hL2⟩
    have ht : ((st2.heap.set st.heap.length (.loop st.slots (if (nx pre x).isNone then .ready else .done) (nx pre x) ps assign body)).take (st.heap.length + 1 + X.length)) = hb (pre ++ [x]) ++ (.loop st.slots (if (nx pre x).isNone then .ready else .done) (nx pre x) ps assign body :: X) := by
      rw [hL2, List.append_assoc, ← hl2, hset0]
      simp only [List.cons_append, List.set_cons_zero]
      rw [Nat.add_assoc, takeAN, show 1 + X.length = X.length + 1 by omega, List.take_succ_cons, List.take_left]
    exact ⟨st.slots, .busy, none, by rw [hL2, List.append_assoc, ← hl2]; exact hget0, outok_round hlp hl2 (fun o ho => hsc _ o ho) (show OScoped _ (.loop st.slots _ _ ps assign body) from hscs) ht, rfl, ht⟩
  cases e with
  | normal => exact fin none hq.1 hq.2
  | ret => exact fin (some .ret) hq.1 hq.2
  | exit k => exact fin (some (.exit k)) hq.1 hq.2
  | _ => exact hq.elim
end Ab
namespace Ab
open Go
variable {P : Program} {ro : Option Nat} {H0 : List AObj} {Q : Exit → ASt → Prop} {st : ASt} {dst : Option Tmp} {ty : TypeId} {pos : String} {after : Array Edge} {guard : Option (Nat × Bool)} {K : AV → List AObj → Prop}
theorem step_atS (sz : Nat) {C : Ctx} (hg : Good C) (n : Nat) (hn : C.H[n]? = some .dead) (o : AObj) (ob : Obj) (w' : World) (hw : w'.heap = C.w.heap.push ob) (so : SameOut C.w w') (hk : o.kind ≠ 6)
    {C' : Ctx} (hC : C' = ⟨fun b => if b = C.w.heap.size then sz else C.S b, fun k => if k = n then C.w.heap.size else C.μ k, C.H.set n o, w'⟩) (hor : Ext C C' → ORel C' n o) : Good C' ∧ Ext C C' := by
  subst hC
  have hnl := (List.getElem?_eq_some_iff.1 hn).1
  have hne : ∀ k (o' : AObj), C.H[k]? = some o' → o'.kind ≠ 6 → k ≠ n := fun k o' h hd e => by rw [e, hn] at h; injection h with h; subst h; exact hd rfl
  have hset : ∀ k, k ≠ n → (C.H.set n o)[k]? = C.H[k]? := fun k h => by rw [List.getElem?_set, if_neg (Ne.symm h)]
  have hself : (C.H.set n o)[n]? = some o := by rw [List.getElem?_set, if_pos rfl]; simp [hnl]
  have hmu : ∀ k, k ≠ n → (if k = n then C.w.heap.size else C.μ k) = C.μ k := fun k h => if_neg h
  have hheap : ∀ b, b < C.w.heap.size → w'.heap[b]? = C.w.heap[b]? := fun b hb => by rw [hw]; exact get_push _ _ _ hb
  have hnew : ∀ k (o' : AObj), (C.H.set n o)[k]? = some o' → (k ≠ n ∧ C.H[k]? = some o') ∨ (k = n ∧ o' = o) := fun k o' h => by
    by_cases e : k = n
    · subst e; rw [hself] at h; exact .inr ⟨rfl, by injection h with h; exact h.symm⟩
    · rw [hset k e] at h; exact .inl ⟨e, h⟩
  have he : Ext C ⟨fun b => if b = C.w.heap.size then sz else C.S b, fun k => if k = n then C.w.heap.size else C.μ k, C.H.set n o, w'⟩ := by
    refine ⟨so.os, so.tape, so.output, ?_, fun b => (by show C.S b ≤ if b = C.w.heap.size then sz else C.S b; split; (rename_i h; rw [hg.fresh b (by omega)]; exact Nat.zero_le _); exact Nat.le_refl _), ?_, ?_, ?_, ?_, ?_, ?_, ?_⟩
    · show C.w.heap.size ≤ w'.heap.size; rw [hw]; simp
    · intro b q hq; exact cell_eq (hheap b (hg.S_lt hq))
    · intro b hb _; exact hheap b hb
    · intro k o' hk' hd
      rcases hnew k o' hk' with ⟨h1, h2⟩ | ⟨h1, h2⟩
      · exact .inr ⟨k, o', h2, hd, (hmu k h1).symm⟩
      · left; show C.w.heap.size ≤ if k = n then C.w.heap.size else C.μ k; rw [if_pos h1]; exact Nat.le_refl _
    · intro k o' h
      by_cases e : k = n
      · subst e; rw [hn] at h; injection h with h; subst h; exact ⟨o, hself, fun hd => absurd rfl hd⟩
      · exact ⟨o', by show (C.H.set n o)[k]? = _; rw [hset k e]; exact h, fun _ => rfl⟩
    · intro k o' h _ h6; exact hmu k (hne k o' h h6)
    · intro k e sz len h
      have hk := hne k _ h (by simp [AObj.kind])
      exact ⟨len, by show (C.H.set n o)[k]? = _; rw [hset k hk]; exact h, Nat.le_refl _, fun _ => ⟨hmu k hk, fun cur hc => ⟨cur, by rw [hheap _ (hg.lt k _ h (by simp [AObj.kind]))]; exact hc, rfl⟩⟩⟩
    · intro k ver es h
      have hk := hne k _ h (by simp [AObj.kind])
      exact ⟨ver, es, by show (C.H.set n o)[k]? = _; rw [hset k hk]; exact h, Nat.le_refl _, fun _ => ⟨rfl, hheap _ (hg.lt k _ h (by simp [AObj.kind]))⟩⟩
  refine ⟨⟨?_, ?_, ?_, ?_⟩, he⟩
  · intro k o' h
    rcases hnew k o' h with ⟨h1, h2⟩ | ⟨h1, h2⟩
    · by_cases hd : o'.kind = 6
      · cases o' <;> first | trivial | (simp [AObj.kind] at hd)
      · have hlt := hg.lt k o' h2 hd
        exact ORel.ext he (hmu k h1) (hheap _ hlt) (by show (if _ then _ else _) = _; rw [if_neg (by omega)]) (hg.obj k o' h2)
    · subst h1; subst h2; exact hor he
  · intro k o' h hd
    show (if k = n then C.w.heap.size else C.μ k) < w'.heap.size
    rw [hw]
    rcases hnew k o' h with ⟨h1, h2⟩ | ⟨h1, h2⟩
    · rw [if_neg h1]; have := hg.lt k o' h2 hd; simp; omega
    · rw [if_pos h1]; simp
  · intro j k o1 o2 h1 h2 d1 d2 hmm
    simp only at hmm
    rcases hnew j o1 h1 with ⟨a1, a2⟩ | ⟨a1, a2⟩ <;> rcases hnew k o2 h2 with ⟨b1, b2⟩ | ⟨b1, b2⟩
    · rw [hmu j a1, hmu k b1] at hmm; exact hg.inj j k o1 o2 a2 b2 d1 d2 hmm
    · rw [hmu j a1, if_pos b1] at hmm; have := hg.lt j o1 a2 d1; omega
    · rw [hmu k b1, if_pos a1] at hmm; have := hg.lt k o2 b2 d2; omega
    · omega
  · intro b hb
    have hb' : C.w.heap.size < b := by have h : w'.heap.size ≤ b := hb; rw [hw] at h; simp at h; omega
    show (if b = C.w.heap.size then sz else C.S b) = 0
    rw [if_neg (by omega)]; exact hg.fresh b (by omega)
theorem AOp_append_zeroAt {t e sz by_ : Nat} {s x : Operand} (n : Nat) (hn : st.heap[n]? = some .dead) (zs : List Value) (ys : List AV) (tk : Tok) (hs : st.opd s = .sl .zero []) (hx : st.opd x = .sl tk ys)
    (ht : SliceT P t e) (hsz : SzOf P e sz) (hby : BytesOf P e by_) (hz : ZeroOf P e zs) (hz0 : zs.length = sz) (hpos : 0 < sz) (huy : Uni sz ys) (hcell : ∀ c, c ∈ flat ys → c.isCell = true) (hne : ys ≠ [])
    (hbound : ys.length * by_ ≤ 140737488355328) (h63 : ys.length ≤ 9223372036854775807)
    (k' : K (.sl (.own n) ys) (st.heap.set n (.tok e sz ys.length))) :
    AOp P ro ⟨dst, .call { callee := .builtin .append, args := #[s, x], argTypes := #[t, t] }, ty, pos, after, guard⟩ K st :=
  AOp_value (fun ρ => semAt_of (fun c => by simp) ro ρ) fun C a hg hH hsr => by
    have h1 := hsr.opd s
    have h2 := hsr.opd x
    rw [hs] at h1
    rw [hx] at h2
    obtain ⟨ad1, c1, e1, hc1, htok, _⟩ := sl_values h1
    obtain ⟨ad2, c2, e2, hc2, _, news, hnl, hnrel, hncell⟩ := sl_values h2
    obtain ⟨_, rfl⟩ := htok
    have hfy := flat_length huy
    have hm : 0 < ys.length := List.length_pos_iff.2 hne
    have hflne : flat ys ≠ [] := fun he => by rw [he] at hfy; have := Nat.mul_pos hm hpos; simp at hfy; omega
    obtain ⟨b2, o2, rfl, hnc2⟩ := hncell hflne
    obtain ⟨i, z, hi, i1, i2, i3, i4⟩ := info_of hsz hby hz
    have hnl' : news.length = ys.length * i.size := by rw [hnl, hfy, i1]
    obtain ⟨cap, hcap⟩ : ∃ cap, cap = grownCap C.w ys.length 0 e := ⟨_, rfl⟩
    have hcge : ys.length ≤ cap := by rw [hcap]; exact grownCap_ge _ _ _ _
    have hcle : cap ≤ maxLen := by rw [hcap]; exact grownCap_le_maxLen _ _ _ _ (by simp only [maxLen]; omega)
    obtain ⟨cur', hcur'⟩ : ∃ cur', cur' = news.toArray ++ Builtin.zeroCells z.cells (cap - ys.length) := ⟨_, rfl⟩
    have hrun : (Builtin.append_ #[t, t] ty #[.slice ad1 0 0, .slice (some ⟨b2, o2, none⟩) ys.length c2]).run P C.w = .ok (.slice (some ⟨C.w.heap.size, 0, none⟩) ys.length cap) (C.w.drew.alloc (.cells cur' e)) := by
      cases ad1 with
      | none =>
        have := run_append_nil (P := P) (ty := ty) C.w t e i z ht hi i3 ⟨b2, o2, none⟩ ys.length c2 news hnl' hnc2 hm (by omega) (by rw [i2]; omega)
        rw [this, hcur', hcap]
      | some a1 =>
        have := run_append_grow (P := P) (ty := ty) C.w t e i z ht hi i3 a1 0 0 [] (by simp) (fun j u hu => by simp at hu) ⟨b2, o2, none⟩ ys.length c2 news hnl' hnc2 (by omega) (by omega) (growslice_fits (by omega) (by rw [i2]; simpa using hbound))
        simp only [Nat.zero_add] at this
        rw [this, hcur', hcap]; simp
    have hzs : z.cells.size = sz := by rw [← hz0, ← i4]; simp
    have hcs' : cur'.size = cap * sz := by
      rw [hcur']; simp only [Array.size_append, List.size_toArray, size_zeroCells, hzs, hnl', i1, ← Nat.add_mul]
      congr 1; omega
    have hfit2 : ys.length * sz ≤ cur'.size := by rw [hcs']; exact Nat.mul_le_mul_right _ hcge
    have hnC : C.H[n]? = some .dead := by rw [hH]; exact hn
    have hnl := (List.getElem?_eq_some_iff.1 hnC).1
    obtain ⟨hg', hx'⟩ := step_atS (ys.length * sz) hg n hnC (.tok e sz ys.length) (.cells cur' e) (C.w.drew.alloc (.cells cur' e)) rfl ⟨rfl, rfl, rfl⟩ (by simp [AObj.kind]) rfl (fun _ => by
      refine ⟨cur', ?_, ?_, hfit2⟩
      · simp only [if_true]; exact heap_alloc_new C.w.drew _
      · simp)
    refine ⟨_, .slice (some ⟨C.w.heap.size, 0, none⟩) ys.length cap, .sl (.own n) ys, ?_, hg', hx', ?_, by rw [← hH] at k'; exact k'⟩
    · simp only [List.length_nil] at e1
      simp only [execOp, resolve, invoke, builtin, List.map_toArray, List.map_cons, List.map_nil, Sem.run_bind, Sem.run_pure, Result.andThen_ok, e1, e2, hrun]
    · have hblk : (C.w.drew.alloc (.cells cur' e)).heap[C.w.heap.size]? = some (.cells cur' e (0, 0)) := heap_alloc_new C.w.drew _
      refine VRel.newSl (cur := cur') (e := e) (fr := (0, 0)) hblk rfl hcge ?_ ?_ ?_ _ ?_
      · rw [hfy]; show _ ≤ if _ then _ else _; rw [if_pos rfl]; omega
      · rw [hfy]; omega
      · intro j hj hj'
        have hgj : cur'[j]? = news[j]? := by
          rw [hcur', Array.getElem?_append_left (by simp; omega)]; simp
        rw [Array.getElem?_eq_getElem hj', List.getElem?_eq_getElem (by omega)] at hgj
        injection hgj with hgj
        rw [hgj]; exact (hnrel j hj (by omega)).ext hx'
      · refine ⟨e, sz, ys.length, by show (C.H.set n _)[n]? = _; simp [hnl], by simp, fun _ => ⟨cur', ?_, ?_, hcle, hcs'⟩⟩
        · simp
        · simp only [if_true]; exact hblk
def gSl (k : Nat) : List AV → AV
  | [] => .sl .zero []
  | x :: xs => .sl (.own k) (x :: xs)
def gTok (e sz : Nat) : List AV → AObj
  | [] => .dead
  | x :: xs => .tok e sz (x :: xs).length
theorem AOp_append_G {t e sz by_ : Nat} {s x : Operand} (zs : List Value) (k : Nat) (xs ys : List AV) (tk : Tok) (hs : st.opd s = gSl k xs) (hx : st.opd x = .sl tk ys) (hh : st.heap[k]? = some (gTok e sz xs))
    (ht : SliceT P t e) (hsz : SzOf P e sz) (hby : BytesOf P e by_) (hz : ZeroOf P e zs) (hz0 : zs.length = sz) (hpos : 0 < sz) (hux : Uni sz xs) (huy : Uni sz ys) (hcell : ∀ c, c ∈ flat ys → c.isCell = true)
    (hbound : (xs.length + ys.length) * by_ ≤ 140737488355328) (h63 : xs.length + ys.length ≤ 9223372036854775807)
    (k' : K (gSl k (xs ++ ys)) (st.heap.set k (gTok e sz (xs ++ ys)))) :
    AOp P ro ⟨dst, .call { callee := .builtin .append, args := #[s, x], argTypes := #[t, t] }, ty, pos, after, guard⟩ K st := by
  cases xs with
  | nil =>
    cases ys with
    | nil =>
      refine AOp_append_zero0 zs tk hs hx ht hsz hby hz ?_
      have : st.heap.set k (gTok e sz ([] ++ [])) = st.heap := by
        apply List.ext_getElem?
        intro i
        rw [List.getElem?_set]
        split
        · rename_i h; subst h
          have hl := (List.getElem?_eq_some_iff.1 hh).1
          simp only [hl, if_true]; exact hh.symm
        · rfl
      rw [this] at k'; exact k'
    | cons y ys => exact AOp_append_zeroAt k hh zs (y :: ys) tk hs hx ht hsz hby hz hz0 hpos huy hcell (by simp) (by simpa using hbound) (by simpa using h63) k'
  | cons x0 xs =>
    refine AOp_append_own zs k (x0 :: xs) ys tk hs hx hh ht hsz hby hz hz0 hpos hux huy hcell hbound h63 ?_
    have e1 : gSl k (x0 :: xs ++ ys) = .sl (.own k) (x0 :: xs ++ ys) := rfl
    have e2 : gTok e sz (x0 :: xs ++ ys) = .tok e sz ((x0 :: xs).length + ys.length) := by simp [gTok]; omega
    rw [e1, e2] at k'; exact k'
theorem gSl_strip {m k : Nat} (h : m ≤ k) (xs : List AV) : Forget (strip m (gSl k xs)) (.sl .none (stripL m xs)) := by
  cases xs with
  | nil => exact Forget.tok _ _
  | cons x xs => exact Forget.tok _ _
theorem scoped_gSl {n k : Nat} {xs : List AV} (hk : k < n) (h : ScopedL n xs) : Scoped n (gSl k xs) := by
  cases xs with
  | nil => simp [gSl, Scoped, ScopedL]
  | cons x xs => exact ⟨hk, h⟩
theorem scoped_gSl_strip {n k : Nat} {xs : List AV} (hk : n ≤ k) (h : ScopedL n (stripL n xs)) : Scoped n (strip n (gSl k xs)) := by
  cases xs with
  | nil => simp [gSl, strip, stripTok, stripL, Scoped, ScopedL]
  | cons x xs =>
    have : ¬ k < n := by omega
    simp only [gSl, strip, stripTok, if_neg this, Scoped]; exact h
theorem gSl_isCell (k : Nat) (xs : List AV) : (gSl k xs).isCell = true := by cases xs <;> rfl
theorem gSl_cells (k : Nat) (xs : List AV) : (gSl k xs).cells = [gSl k xs] := by cases xs <;> rfl
theorem oscoped_gTok (n e sz : Nat) (xs : List AV) : OScoped n (gTok e sz xs) := by cases xs <;> trivial
theorem ACall.weakR {f : Nat} {args : List AV} {H : List AObj} {R R' : AV → List AObj → Prop} (h : ACall P f args H R) (hw : ∀ r H', R r H' → ∃ r', Forget r r' ∧ R' r' H') : ACall P f args H R' := fun C vs hg hH hsz hv =>
  (h C vs hg hH hsz hv).mono fun _ _ ⟨v, r, C', e1, e2, e3, e4, e5, e6⟩ => let ⟨r', f1, f2⟩ := hw r C'.H e6; ⟨v, r', C', e1, e2, e3, e4, f1 C' v e5, f2⟩
end Ab
namespace Ab
open Go Go.Proofs
theorem sz1 : SzOf Try.prog 1 1 := by unfold SzOf; kernel_rfl
theorem sz3 : SzOf Try.prog 3 1 := by unfold SzOf; kernel_rfl
theorem by3 : BytesOf Try.prog 3 8 := by unfold BytesOf; kernel_rfl
theorem ag3 : AggT Try.prog 3 false := by unfold AggT; kernel_rfl
theorem zr3 : ZeroOf Try.prog 3 [.int .i64 0] := by unfold ZeroOf; kernel_rfl
theorem un3 : Try.prog.underlying 3 = some (.int .i64) := by kernel_rfl
theorem sz4 : SzOf Try.prog 4 1 := by unfold SzOf; kernel_rfl
theorem ag4 : AggT Try.prog 4 false := by unfold AggT; kernel_rfl
theorem un4 : Try.prog.underlying 4 = some .bool := by kernel_rfl
theorem sz5 : SzOf Try.prog 5 1 := by unfold SzOf; kernel_rfl
theorem ag5 : AggT Try.prog 5 false := by unfold AggT; kernel_rfl
theorem un5 : Try.prog.underlying 5 = some (.int .u8) := by kernel_rfl
theorem sz9 : SzOf Try.prog 9 1 := by unfold SzOf; kernel_rfl
theorem ag9 : AggT Try.prog 9 false := by unfold AggT; kernel_rfl
theorem un9 : Try.prog.underlying 9 = some .string := by kernel_rfl
theorem sz22 : SzOf Try.prog 22 1 := by unfold SzOf; kernel_rfl
theorem ag22 : AggT Try.prog 22 false := by unfold AggT; kernel_rfl
theorem sl22 : SliceT Try.prog 22 63 := by unfold SliceT; kernel_rfl
theorem sz24 : SzOf Try.prog 24 2 := by unfold SzOf; kernel_rfl
theorem ag24 : AggT Try.prog 24 true := by unfold AggT; kernel_rfl
theorem fd24_0 : FieldT Try.prog 24 0 0 1 := by unfold FieldT; kernel_rfl
theorem fd24_1 : FieldT Try.prog 24 1 1 1 := by unfold FieldT; kernel_rfl
theorem sz25 : SzOf Try.prog 25 1 := by unfold SzOf; kernel_rfl
theorem ag25 : AggT Try.prog 25 false := by unfold AggT; kernel_rfl
theorem sl25 : SliceT Try.prog 25 27 := by unfold SliceT; kernel_rfl
theorem sz27 : SzOf Try.prog 27 3 := by unfold SzOf; kernel_rfl
theorem by27 : BytesOf Try.prog 27 48 := by unfold BytesOf; kernel_rfl
theorem ag27 : AggT Try.prog 27 true := by unfold AggT; kernel_rfl
theorem zr27 : ZeroOf Try.prog 27 [.string ⟨#[]⟩, .bool false, .slice none 0 0] := by unfold ZeroOf; kernel_rfl
theorem fd27_0 : FieldT Try.prog 27 0 0 1 := by unfold FieldT; kernel_rfl
theorem fd27_1 : FieldT Try.prog 27 1 1 1 := by unfold FieldT; kernel_rfl
theorem fd27_2 : FieldT Try.prog 27 2 2 1 := by unfold FieldT; kernel_rfl
theorem st27 : StructT Try.prog 27 [(0, 1), (1, 1), (2, 1)] := by unfold StructT; kernel_rfl
theorem sz34 : SzOf Try.prog 34 1 := by unfold SzOf; kernel_rfl
theorem ag34 : AggT Try.prog 34 false := by unfold AggT; kernel_rfl
theorem zr34 : ZeroOf Try.prog 34 [.slice none 0 0] := by unfold ZeroOf; kernel_rfl
theorem sl34 : SliceT Try.prog 34 65 := by unfold SliceT; kernel_rfl
theorem ar42 : ArrT Try.prog 42 2 27 := by unfold ArrT; kernel_rfl
theorem sz43 : SzOf Try.prog 43 1 := by unfold SzOf; kernel_rfl
theorem ag43 : AggT Try.prog 43 false := by unfold AggT; kernel_rfl
theorem sl43 : SliceT Try.prog 43 70 := by unfold SliceT; kernel_rfl
theorem sz44 : SzOf Try.prog 44 1 := by unfold SzOf; kernel_rfl
theorem ag44 : AggT Try.prog 44 false := by unfold AggT; kernel_rfl
theorem sl44 : SliceT Try.prog 44 3 := by unfold SliceT; kernel_rfl
theorem fd46_0 : FieldT Try.prog 46 0 0 1 := by unfold FieldT; kernel_rfl
theorem fd46_1 : FieldT Try.prog 46 1 1 3 := by unfold FieldT; kernel_rfl
theorem fd46_2 : FieldT Try.prog 46 2 4 1 := by unfold FieldT; kernel_rfl
theorem sz63 : SzOf Try.prog 63 3 := by unfold SzOf; kernel_rfl
theorem ag63 : AggT Try.prog 63 true := by unfold AggT; kernel_rfl
theorem zr63 : ZeroOf Try.prog 63 [.string ⟨#[]⟩, .int .i64 0, .int .i64 0] := by unfold ZeroOf; kernel_rfl
theorem fd63_0 : FieldT Try.prog 63 0 0 1 := by unfold FieldT; kernel_rfl
theorem fd63_1 : FieldT Try.prog 63 1 1 1 := by unfold FieldT; kernel_rfl
theorem fa63_1 : FieldA Try.prog 63 1 1 1 false := ⟨fd63_1, by kernel_rfl⟩
theorem fd63_2 : FieldT Try.prog 63 2 2 1 := by unfold FieldT; kernel_rfl
theorem fa63_2 : FieldA Try.prog 63 2 2 1 false := ⟨fd63_2, by kernel_rfl⟩
theorem st63 : StructT Try.prog 63 [(0, 1), (1, 1), (2, 1)] := by unfold StructT; kernel_rfl
theorem sz65 : SzOf Try.prog 65 2 := by unfold SzOf; kernel_rfl
theorem by65 : BytesOf Try.prog 65 24 := by unfold BytesOf; kernel_rfl
theorem ag65 : AggT Try.prog 65 true := by unfold AggT; kernel_rfl
theorem zr65 : ZeroOf Try.prog 65 [.string ⟨#[]⟩, .int .i64 0] := by unfold ZeroOf; kernel_rfl
theorem pl65 : PlainT Try.prog 65 [.str, .int .i64] := ⟨by kernel_rfl, by kernel_rfl, by kernel_rfl, by kernel_rfl⟩
theorem fd65_0 : FieldT Try.prog 65 0 0 1 := by unfold FieldT; kernel_rfl
theorem fd65_1 : FieldT Try.prog 65 1 1 1 := by unfold FieldT; kernel_rfl
theorem st65 : StructT Try.prog 65 [(0, 1), (1, 1)] := by unfold StructT; kernel_rfl
theorem sz70 : SzOf Try.prog 70 4 := by unfold SzOf; kernel_rfl
theorem ag70 : AggT Try.prog 70 true := by unfold AggT; kernel_rfl
theorem zr70 : ZeroOf Try.prog 70 [.string ⟨#[]⟩, .string ⟨#[]⟩, .bool false, .slice none 0 0] := by unfold ZeroOf; kernel_rfl
theorem fd70_0 : FieldT Try.prog 70 0 0 1 := by unfold FieldT; kernel_rfl
theorem fd70_1 : FieldT Try.prog 70 1 1 3 := by unfold FieldT; kernel_rfl
theorem sz80 : SzOf Try.prog 80 1 := by unfold SzOf; kernel_rfl
theorem ag80 : AggT Try.prog 80 false := by unfold AggT; kernel_rfl
theorem zr80 : ZeroOf Try.prog 80 [.nilFunc] := by unfold ZeroOf; kernel_rfl
theorem sz85 : SzOf Try.prog 85 1 := by unfold SzOf; kernel_rfl
theorem ag85 : AggT Try.prog 85 false := by unfold AggT; kernel_rfl
theorem zr85 : ZeroOf Try.prog 85 [.map none] := by unfold ZeroOf; kernel_rfl
theorem un85 : Try.prog.underlying 85 = some (.map 65 4) := by kernel_rfl
theorem sz88 : SzOf Try.prog 88 1 := by unfold SzOf; kernel_rfl
theorem ag88 : AggT Try.prog 88 false := by unfold AggT; kernel_rfl
theorem zr88 : ZeroOf Try.prog 88 [.map none] := by unfold ZeroOf; kernel_rfl
theorem un88 : Try.prog.underlying 88 = some (.map 9 3) := by kernel_rfl
theorem sl108 : SliceT Try.prog 108 5 := by unfold SliceT; kernel_rfl
theorem un110 : Try.prog.underlying 110 = some (.int .u64) := by kernel_rfl
theorem ok7 : callOk Try.prog 7 = true := by kernel_rfl
theorem ok8 : callOk Try.prog 8 = true := by kernel_rfl
theorem ok9 : callOk Try.prog 9 = true := by kernel_rfl
theorem ok10 : callOk Try.prog 10 = true := by kernel_rfl
theorem ok11 : callOk Try.prog 11 = true := by kernel_rfl
theorem ok12 : callOk Try.prog 12 = true := by kernel_rfl
theorem ok14 : callOk Try.prog 14 = true := by kernel_rfl
theorem ok15 : callOk Try.prog 15 = true := by kernel_rfl
theorem ok16 : callOk Try.prog 16 = true := by kernel_rfl
theorem ok17 : callOk Try.prog 17 = true := by kernel_rfl
theorem ok18 : callOk Try.prog 18 = true := by kernel_rfl
theorem ok19 : callOk Try.prog 19 = true := by kernel_rfl
theorem ok20 : callOk Try.prog 20 = true := by kernel_rfl
theorem ok21 : callOk Try.prog 21 = true := by kernel_rfl
theorem ok22 : callOk Try.prog 22 = true := by kernel_rfl
theorem ok24 : callOk Try.prog 24 = true := by kernel_rfl
theorem ok27 : callOk Try.prog 27 = true := by kernel_rfl
theorem ok28 : callOk Try.prog 28 = true := by kernel_rfl
theorem ok29 : callOk Try.prog 29 = true := by kernel_rfl
theorem ok30 : callOk Try.prog 30 = true := by kernel_rfl
theorem ok31 : callOk Try.prog 31 = true := by kernel_rfl
theorem ok32 : callOk Try.prog 32 = true := by kernel_rfl
theorem ok33 : callOk Try.prog 33 = true := by kernel_rfl
theorem ok36 : callOk Try.prog 36 = true := by kernel_rfl
theorem ok37 : callOk Try.prog 37 = true := by kernel_rfl
theorem ok38 : callOk Try.prog 38 = true := by kernel_rfl
theorem ok39 : callOk Try.prog 39 = true := by kernel_rfl
theorem ok40 : callOk Try.prog 40 = true := by kernel_rfl
theorem ok41 : callOk Try.prog 41 = true := by kernel_rfl
theorem ok42 : callOk Try.prog 42 = true := by kernel_rfl
theorem ok43 : callOk Try.prog 43 = true := by kernel_rfl
theorem ok44 : callOk Try.prog 44 = true := by kernel_rfl
theorem ok45 : callOk Try.prog 45 = true := by kernel_rfl
theorem ok46 : callOk Try.prog 46 = true := by kernel_rfl
theorem ok47 : callOk Try.prog 47 = true := by kernel_rfl
theorem ok48 : callOk Try.prog 48 = true := by kernel_rfl
theorem ok49 : callOk Try.prog 49 = true := by kernel_rfl
theorem ok50 : callOk Try.prog 50 = true := by kernel_rfl
theorem ok51 : callOk Try.prog 51 = true := by kernel_rfl
theorem ok52 : callOk Try.prog 52 = true := by kernel_rfl
theorem ok53 : callOk Try.prog 53 = true := by kernel_rfl
theorem ok54 : callOk Try.prog 54 = true := by kernel_rfl
theorem ok55 : callOk Try.prog 55 = true := by kernel_rfl
theorem ok56 : callOk Try.prog 56 = true := by kernel_rfl
theorem ok60 : callOk Try.prog 60 = true := by kernel_rfl
theorem ok61 : callOk Try.prog 61 = true := by kernel_rfl
theorem ok62 : callOk Try.prog 62 = true := by kernel_rfl
theorem ok63 : callOk Try.prog 63 = true := by kernel_rfl
theorem ok64 : callOk Try.prog 64 = true := by kernel_rfl
theorem ok65 : callOk Try.prog 65 = true := by kernel_rfl
theorem ok66 : callOk Try.prog 66 = true := by kernel_rfl
theorem ok67 : callOk Try.prog 67 = true := by kernel_rfl
theorem ok68 : callOk Try.prog 68 = true := by kernel_rfl
theorem ok69 : callOk Try.prog 69 = true := by kernel_rfl
theorem ok70 : callOk Try.prog 70 = true := by kernel_rfl
theorem ok71 : callOk Try.prog 71 = true := by kernel_rfl
theorem ok72 : callOk Try.prog 72 = true := by kernel_rfl
theorem ok73 : callOk Try.prog 73 = true := by kernel_rfl
theorem ok74 : callOk Try.prog 74 = true := by kernel_rfl
theorem ok75 : callOk Try.prog 75 = true := by kernel_rfl
theorem ok77 : callOk Try.prog 77 = true := by kernel_rfl
theorem ok78 : callOk Try.prog 78 = true := by kernel_rfl
theorem ok79 : callOk Try.prog 79 = true := by kernel_rfl
theorem ok80 : callOk Try.prog 80 = true := by kernel_rfl
theorem ok81 : callOk Try.prog 81 = true := by kernel_rfl
theorem ok82 : callOk Try.prog 82 = true := by kernel_rfl
theorem ok83 : callOk Try.prog 83 = true := by kernel_rfl
theorem ok84 : callOk Try.prog 84 = true := by kernel_rfl
theorem ok85 : callOk Try.prog 85 = true := by kernel_rfl
theorem ok86 : callOk Try.prog 86 = true := by kernel_rfl
theorem ok87 : callOk Try.prog 87 = true := by kernel_rfl
theorem ok89 : callOk Try.prog 89 = true := by kernel_rfl
theorem ok90 : callOk Try.prog 90 = true := by kernel_rfl
theorem ok91 : callOk Try.prog 91 = true := by kernel_rfl
theorem ok93 : callOk Try.prog 93 = true := by kernel_rfl
theorem dr : Try.prog.follows .mixedOrders = true := by kernel_rfl
theorem xc92 : ExtCmp Try.prog 92 := ⟨_, rfl, by kernel_rfl, by kernel_rfl, by kernel_rfl, by kernel_rfl⟩
end Ab
set_option maxRecDepth 10000
namespace Ab
open Go Go.Proofs
inductive Term where
  | mk (name : List UInt8) (var : Bool) (args : List Term)
def Term.name : Term → List UInt8 | .mk n _ _ => n
def Term.var : Term → Bool | .mk _ v _ => v
def Term.args : Term → List Term | .mk _ _ a => a
def encTs : List Term → List AV
  | [] => []
  | .mk n v xs :: r => .agg [.str n, .bool v, .sl .none (encTs xs)] :: encTs r
@[reducible] def encT (t : Term) : AV := .agg [.str t.name, .bool t.var, .sl .none (encTs t.args)]
theorem encTs_cons (a : Term) (r : List Term) : encTs (a :: r) = encT a :: encTs r := by cases a; simp only [encTs]; rfl
theorem encTs_map : ∀ l : List Term, encTs l = l.map encT
  | [] => by simp [encTs]
  | a :: r => by rw [encTs_cons, encTs_map r]; rfl
theorem encTs_length (l : List Term) : (encTs l).length = l.length := by rw [encTs_map]; simp
theorem encTs_get (l : List Term) (i : Nat) (h : i < (encTs l).length) : (encTs l)[i] = encT (l[i]'(by rw [encTs_length] at h; exact h)) := by simp [encTs_map]
theorem uni_encTs (l : List Term) : Uni 3 (encTs l) := by
  intro x hx
  obtain ⟨i, hi, rfl⟩ := List.getElem_of_mem hx
  rw [encTs_get]; rfl
theorem scoped_encTs (n : Nat) : ∀ l : List Term, ScopedL n (encTs l)
  | [] => by simp [encTs, ScopedL]
  | .mk nm v xs :: r => by
    have h1 := scoped_encTs n xs
    have h2 := scoped_encTs n r
    simp [encTs, ScopedL, Scoped, h1, h2]
theorem strip_encTs (n : Nat) : ∀ l : List Term, stripL n (encTs l) = encTs l
  | [] => by simp [encTs, stripL]
  | .mk nm v xs :: r => by
    have h1 := strip_encTs n xs
    have h2 := strip_encTs n r
    simp [encTs, stripL, strip, stripTok, h1, h2]
theorem cell_encTs (l : List Term) : ∀ c, c ∈ flat (encTs l) → c.isCell = true := by
  intro c hc
  unfold flat at hc
  rw [List.mem_flatMap] at hc
  obtain ⟨a, ha, hc⟩ := hc
  rw [encTs_map, List.mem_map] at ha
  obtain ⟨t, _, rfl⟩ := ha
  simp [AV.cells] at hc
  rcases hc with rfl | rfl | rfl <;> rfl
theorem Term.ind {p : Term → Prop} (h : ∀ n v xs, (∀ x, x ∈ xs → p x) → p (.mk n v xs)) : ∀ t, p t
  | .mk n v xs => h n v xs (fun x hx => Term.ind h x)
def Term.size : Term → Nat
  | .mk _ _ xs => 1 + (xs.map Term.size).sum
theorem Term.size_mk (n : List UInt8) (v : Bool) (xs : List Term) : (Term.mk n v xs).size = 1 + (xs.map Term.size).sum := by simp [Term.size]
theorem Term.size_pos : ∀ t : Term, 1 ≤ t.size | .mk n v xs => by rw [Term.size_mk]; omega
def Term.depth : Term → Nat
  | .mk _ _ xs => (xs.map Term.depth).foldl max 0 + 1
theorem Term.depth_mk (n : List UInt8) (v : Bool) (xs : List Term) : (Term.mk n v xs).depth = (xs.map Term.depth).foldl max 0 + 1 := by simp [Term.depth]
theorem take_sum {α : Type} (f : α → Nat) (xs : List α) (i : Nat) (h : i < xs.length) : ((xs.take (i + 1)).map f).sum = ((xs.take i).map f).sum + f xs[i] := by
  rw [List.take_succ_eq_append_getElem h, List.map_append, List.sum_append]; simp
theorem take_sum_le {α : Type} (f : α → Nat) : ∀ (xs : List α) (i : Nat), ((xs.take i).map f).sum ≤ (xs.map f).sum
  | [], i => by simp
  | a :: r, 0 => by simp
  | a :: r, i + 1 => by have := take_sum_le f r i; simp only [List.take_succ_cons, List.map_cons, List.sum_cons]; omega
theorem le_sum {α : Type} (f : α → Nat) : ∀ (xs : List α) (x : α), x ∈ xs → f x ≤ (xs.map f).sum
  | a :: r, x, h => by
    rcases List.mem_cons.1 h with rfl | h
    · simp
    · have := le_sum f r x h; simp; omega
theorem len_le_sum (xs : List Term) : xs.length ≤ (xs.map Term.size).sum := by
  induction xs with
  | nil => simp
  | cons a r ih => have := a.size_pos; simp; omega
theorem foldl_max_le (f : Term → Nat) : ∀ (xs : List Term) (b : Nat), (xs.map f).foldl max b ≤ max b (xs.map f).sum
  | [], b => by simp
  | a :: r, b => by have := foldl_max_le f r (max b (f a)); simp only [List.map_cons, List.foldl_cons, List.sum_cons]; omega
theorem Term.depth_le (t : Term) : t.depth ≤ t.size := by
  refine Term.ind (p := fun t => t.depth ≤ t.size) (fun n v xs ih => ?_) t
  rw [Term.depth_mk, Term.size_mk]
  have h1 := foldl_max_le Term.depth xs 0
  have h2 : (xs.map Term.depth).sum ≤ (xs.map Term.size).sum := by
    clear h1
    induction xs with
    | nil => simp
    | cons a r ih2 =>
      have := ih a (by simp)
      have := ih2 (fun x hx => ih x (by simp [hx]))
      simp; omega
  omega
theorem any_take_false {α : Type} {p : α → Bool} {xs : List α} {i : Nat} (h : (xs.take i).any p = false) (hi : i < xs.length) (hp : p xs[i] = false) : (xs.take (i + 1)).any p = false := by
  rw [List.take_succ_eq_append_getElem hi, List.any_append, h]; simp [hp]
theorem any_get {α : Type} {p : α → Bool} {xs : List α} {i : Nat} (hi : i < xs.length) (hp : p xs[i] = true) : xs.any p = true := List.any_eq_true.2 ⟨xs[i], List.getElem_mem hi, hp⟩
theorem all_take_true {α : Type} {p : α → Bool} {xs : List α} {i : Nat} (h : (xs.take i).all p = true) (hi : i < xs.length) (hp : p xs[i] = true) : (xs.take (i + 1)).all p = true := by
  rw [List.take_succ_eq_append_getElem hi, List.all_append, h]; simp [hp]
theorem all_get {α : Type} {p : α → Bool} {xs : List α} {i : Nat} (hi : i < xs.length) (hp : p xs[i] = false) : xs.all p = false := by
  rw [Bool.eq_false_iff]; intro h; rw [List.all_eq_true] at h; rw [h _ (List.getElem_mem hi)] at hp; cases hp
def Term.bulk : Term → Nat
  | .mk n _ xs => 1 + n.length + (xs.map Term.bulk).sum
theorem Term.bulk_mk (n : List UInt8) (v : Bool) (xs : List Term) : (Term.mk n v xs).bulk = 1 + n.length + (xs.map Term.bulk).sum := by simp [Term.bulk]
theorem Term.size_le (t : Term) : t.size ≤ t.bulk := by
  refine Term.ind (p := fun t => t.size ≤ t.bulk) (fun n v xs ih => ?_) t
  rw [Term.bulk_mk, Term.size_mk]
  have h2 : (xs.map Term.size).sum ≤ (xs.map Term.bulk).sum := by
    induction xs with
    | nil => simp
    | cons a r ih2 =>
      have := ih a (by simp)
      have := ih2 (fun x hx => ih x (by simp [hx]))
      simp; omega
  omega
theorem Term.arg_le {n : List UInt8} {v : Bool} {xs : List Term} {x : Term} (h : x ∈ xs) : x.bulk < (Term.mk n v xs).bulk := by
  have := le_sum Term.bulk xs x h
  rw [Term.bulk_mk]; omega
theorem Term.len_le {n : List UInt8} {v : Bool} {xs : List Term} : xs.length < (Term.mk n v xs).bulk := by
  have h1 := len_le_sum xs
  have h2 := (Term.mk n v xs).size_le
  rw [Term.size_mk] at h2; omega
theorem Term.name_le {n : List UInt8} {v : Bool} {xs : List Term} : n.length < (Term.mk n v xs).bulk := by rw [Term.bulk_mk]; omega
def encL {α : Type} (enc : α → AV) (xs : List α) : List AV := xs.map enc
theorem encL_length {α : Type} (enc : α → AV) (xs : List α) : (encL enc xs).length = xs.length := by simp [encL]
theorem encL_get {α : Type} (enc : α → AV) (xs : List α) (i : Nat) (h : i < (encL enc xs).length) : (encL enc xs)[i] = enc (xs[i]'(by rw [encL_length] at h; exact h)) := by simp [encL]
theorem scoped_encL {α : Type} {enc : α → AV} {n : Nat} (h : ∀ x, Scoped n (enc x)) (xs : List α) : ScopedL n (encL enc xs) := ScopedL_iff.2 fun v hv => by
  simp [encL] at hv; obtain ⟨x, _, rfl⟩ := hv; exact h x
theorem uni_encL {α : Type} {enc : α → AV} {k : Nat} (h : ∀ x, (enc x).cells.length = k) (xs : List α) : Uni k (encL enc xs) := by
  intro x hx; simp [encL] at hx; obtain ⟨b, _, rfl⟩ := hx; exact h b
def inName (c : Int) : Bool := decide (97 ≤ c) && decide (c ≤ 122) || decide (65 ≤ c) && decide (c ≤ 90) || decide (48 ≤ c) && decide (c ≤ 57) || decide (c = 95) || decide (c = 39)
def inNameB (c : UInt8) : Bool := inName c.toNat
def trimSuffix (s suf : List UInt8) : List UInt8 := if suf.length ≤ s.length ∧ s.drop (s.length - suf.length) = suf then s.take (s.length - suf.length) else s
def isNameP (s : List UInt8) (marked : Bool) : Bool :=
  decide (s.length ≤ 24) && (let s' := if marked then trimSuffix s [35] else s; decide (s' ≠ []) && !s'.any fun c => !inNameB c)
def encB (s : List UInt8) : List AV := s.map fun b => .int .u8 b.toNat
theorem encB_length (s : List UInt8) : (encB s).length = s.length := by simp [encB]
theorem encB_get (s : List UInt8) (i : Nat) (h : i < (encB s).length) : (encB s)[i] = .int .u8 ((s[i]'(by rw [encB_length] at h; exact h)).toNat) := by simp [encB]
theorem scoped_encB (n : Nat) (s : List UInt8) : ScopedL n (encB s) := ScopedL_iff.2 fun v hv => by
  simp [encB] at hv; obtain ⟨b, _, rfl⟩ := hv; simp [Scoped]
theorem uni_encB (s : List UInt8) : Uni 1 (encB s) := by
  intro x hx; simp [encB] at hx; obtain ⟨b, _, rfl⟩ := hx; rfl
def formedP : Term → Bool
  | .mk n v xs => if v then decide (xs.length = 0) && isNameP n false else decide (xs.length ≤ 8) && isNameP n true && (xs.map formedP).all id
theorem formedP_mk (n : List UInt8) (v : Bool) (xs : List Term) : formedP (.mk n v xs) = if v then decide (xs.length = 0) && isNameP n false else decide (xs.length ≤ 8) && isNameP n true && xs.all formedP := by
  rw [formedP, List.all_map]; rfl
def fitsP (t : Term) : Bool := decide (t.size ≤ 4000) && decide (t.depth ≤ 200)
def checkP (t : Term) : Int := if !formedP t then 4 else if !fitsP t then 3 else 0
def firstErr : List Term → Int
  | [] => 0
  | t :: r => if checkP t = 0 then firstErr r else checkP t
def eqTs : List Term → List Term → Bool
  | [], [] => true
  | .mk n v xs :: r, .mk m u ys :: r' => decide (n = m) && (v == u) && (eqTs xs ys && eqTs r r')
  | _, _ => false
theorem eqTs_iff : ∀ xs ys : List Term, eqTs xs ys = true ↔ xs = ys
  | [], [] => by simp [eqTs]
  | [], _ :: _ => by simp [eqTs]
  | .mk _ _ _ :: _, [] => by simp [eqTs]
  | .mk n v xs :: r, .mk m u ys :: r' => by
    have h1 := eqTs_iff xs ys
    have h2 := eqTs_iff r r'
    simp [eqTs, h1, h2, and_assoc]
instance : DecidableEq Term := fun a b => decidable_of_iff (eqTs [a] [b] = true) (by rw [eqTs_iff]; simp)
attribute [push_cast] encL_length encL_get List.take_length encTs_get encTs_length scoped_encTs encB_length encB_get scoped_encB strip_encTs
end Ab
set_option maxRecDepth 10000
namespace Ab
open Go Go.Proofs
attribute [local push_cast] encT
theorem inName_ac (c : Int) (H : List AObj) : ACall Try.prog 81 [.int .u8 c] H (fun r H' => r = .bool (inName c) ∧ H' = H) := by
  refine ACall_intro (H.length) Try.func81 rfl ?_
  simp only [Try.ntmps81, List.length_cons, List.length_nil, List.replicate, List.cons_append, List.nil_append, Nat.reduceAdd, Nat.reduceSub, Nat.zero_add]
  refine AW_seq_k (fun K1 hK1 => ?_)
  refine AW_region ?_
  all_goals (refine AOps_cons rfl (AOp_assign ?_) <;> try simp only [push_cast, Nat.reduceAdd])
  all_goals refine AOps_nil ?_
  all_goals
   refine thenK_normal (hK1 _ ?_)
   try clear hK1
   refine AW_seq_k (fun K2 hK2 => ?_)
   refine AW_region ?_
   all_goals refine AOps_cons rfl (AOp_move ?_)
   all_goals (try simp only [push_cast, Nat.reduceAdd])
   all_goals (refine AOps_cons rfl (AOp_bin_int _ _ _ _ rfl rfl rfl ?_) <;> try simp only [push_cast, Nat.reduceAdd])
   all_goals refine AOps_cons rfl (AOp_move ?_)
   all_goals (try simp only [push_cast, Nat.reduceAdd])
   all_goals (try refine AOps_split 5 _ rfl (fun hg3 => ?_) (fun hg3 => ?_))
   all_goals (try (exfalso; (first | (cases hg3; done) | (simp at hg3; done) | (simp at hg3; omega)); done))
   all_goals (try simp only [decide_eq_true_eq, decide_eq_false_iff_not, Bool.not_eq_true', Bool.not_eq_false', Bool.not_eq_eq_eq_not, Bool.not_true, Bool.not_false] at hg3)
   all_goals first
    | refine AOps_skip rfl ?_
    | (refine AOps_cons rfl ?_
       refine AOp_move ?_)
   all_goals (try simp only [push_cast, Nat.reduceAdd])
   all_goals first
    | refine AOps_skip rfl ?_
    | (refine AOps_cons rfl ?_
       refine AOp_bin_int _ _ _ _ rfl rfl rfl ?_)
   all_goals (try simp only [push_cast, Nat.reduceAdd])
   all_goals refine AOps_cons rfl (AOp_pick _ rfl ?_)
   all_goals refine AOps_cons rfl (AOp_move ?_)
   all_goals (try simp only [push_cast, Nat.reduceAdd])
   all_goals (try refine AOps_split 9 _ rfl (fun hg4 => ?_) (fun hg4 => ?_))
   all_goals (try (exfalso; (first | (cases hg4; done) | (simp at hg4; done) | (simp at hg4; omega)); done))
   all_goals (try simp only [decide_eq_true_eq, decide_eq_false_iff_not, Bool.not_eq_true', Bool.not_eq_false', Bool.not_eq_eq_eq_not, Bool.not_true, Bool.not_false] at hg4)
   all_goals first
    | refine AOps_skip rfl ?_
    | (refine AOps_cons rfl ?_
       refine AOp_move ?_)
   all_goals (try simp only [push_cast, Nat.reduceAdd])
   all_goals first
    | refine AOps_skip rfl ?_
    | (refine AOps_cons rfl ?_
       refine AOp_bin_int _ _ _ _ rfl rfl rfl ?_)
   all_goals (try simp only [push_cast, Nat.reduceAdd])
   all_goals first
    | refine AOps_skip rfl ?_
    | (refine AOps_cons rfl ?_
       refine AOp_move ?_)
   all_goals (try simp only [push_cast, Nat.reduceAdd])
   all_goals (try refine AOps_split 12 _ rfl (fun hg5 => ?_) (fun hg5 => ?_))
   all_goals (try (exfalso; (first | (cases hg5; done) | (simp at hg5; done) | (simp at hg5; omega)); done))
   all_goals (try simp only [decide_eq_true_eq, decide_eq_false_iff_not, Bool.not_eq_true', Bool.not_eq_false', Bool.not_eq_eq_eq_not, Bool.not_true, Bool.not_false] at hg5)
   all_goals first
    | refine AOps_skip rfl ?_
    | (refine AOps_cons rfl ?_
       refine AOp_move ?_)
   all_goals (try simp only [push_cast, Nat.reduceAdd])
   all_goals first
    | refine AOps_skip rfl ?_
    | (refine AOps_cons rfl ?_
       refine AOp_bin_int _ _ _ _ rfl rfl rfl ?_)
   all_goals (try simp only [push_cast, Nat.reduceAdd])
   all_goals first
    | refine AOps_skip rfl ?_
    | (refine AOps_cons rfl ?_
       refine AOp_pick _ rfl ?_)
   all_goals (try simp only [push_cast, Nat.reduceAdd])
   all_goals refine AOps_cons rfl (AOp_pick _ rfl ?_)
   all_goals refine AOps_cons rfl (AOp_move ?_)
   all_goals (try simp only [push_cast, Nat.reduceAdd])
   all_goals (try refine AOps_split 17 _ rfl (fun hg6 => ?_) (fun hg6 => ?_))
   all_goals (try (exfalso; (first | (cases hg6; done) | (simp at hg6; done) | (simp at hg6; omega)); done))
   all_goals (try simp only [decide_eq_true_eq, decide_eq_false_iff_not, Bool.not_eq_true', Bool.not_eq_false', Bool.not_eq_eq_eq_not, Bool.not_true, Bool.not_false] at hg6)
   all_goals first
    | refine AOps_skip rfl ?_
    | (refine AOps_cons rfl ?_
       refine AOp_move ?_)
   all_goals (try simp only [push_cast, Nat.reduceAdd])
   all_goals first
    | refine AOps_skip rfl ?_
    | (refine AOps_cons rfl ?_
       refine AOp_bin_int _ _ _ _ rfl rfl rfl ?_)
   all_goals (try simp only [push_cast, Nat.reduceAdd])
   all_goals first
    | refine AOps_skip rfl ?_
    | (refine AOps_cons rfl ?_
       refine AOp_move ?_)
   all_goals (try simp only [push_cast, Nat.reduceAdd])
   all_goals (try refine AOps_split 20 _ rfl (fun hg7 => ?_) (fun hg7 => ?_))
   all_goals (try (exfalso; (first | (cases hg7; done) | (simp at hg7; done) | (simp at hg7; omega)); done))
   all_goals (try simp only [decide_eq_true_eq, decide_eq_false_iff_not, Bool.not_eq_true', Bool.not_eq_false', Bool.not_eq_eq_eq_not, Bool.not_true, Bool.not_false] at hg7)
   all_goals first
    | refine AOps_skip rfl ?_
    | (refine AOps_cons rfl ?_
       refine AOp_move ?_)
   all_goals (try simp only [push_cast, Nat.reduceAdd])
   all_goals first
    | refine AOps_skip rfl ?_
    | (refine AOps_cons rfl ?_
       refine AOp_bin_int _ _ _ _ rfl rfl rfl ?_)
   all_goals (try simp only [push_cast, Nat.reduceAdd])
   all_goals first
    | refine AOps_skip rfl ?_
    | (refine AOps_cons rfl ?_
       refine AOp_pick _ rfl ?_)
   all_goals (try simp only [push_cast, Nat.reduceAdd])
   all_goals refine AOps_cons rfl (AOp_pick _ rfl ?_)
   all_goals refine AOps_cons rfl (AOp_move ?_)
   all_goals (try simp only [push_cast, Nat.reduceAdd])
   all_goals (try refine AOps_split 25 _ rfl (fun hg8 => ?_) (fun hg8 => ?_))
   all_goals (try (exfalso; (first | (cases hg8; done) | (simp at hg8; done) | (simp at hg8; omega)); done))
   all_goals (try simp only [decide_eq_true_eq, decide_eq_false_iff_not, Bool.not_eq_true', Bool.not_eq_false', Bool.not_eq_eq_eq_not, Bool.not_true, Bool.not_false] at hg8)
   all_goals first
    | refine AOps_skip rfl ?_
    | (refine AOps_cons rfl ?_
       refine AOp_move ?_)
   all_goals (try simp only [push_cast, Nat.reduceAdd])
   all_goals first
    | refine AOps_skip rfl ?_
    | (refine AOps_cons rfl ?_
       refine AOp_bin_int _ _ _ _ rfl rfl rfl ?_)
   all_goals (try simp only [push_cast, Nat.reduceAdd])
   all_goals refine AOps_cons rfl (AOp_pick _ rfl ?_)
   all_goals refine AOps_cons rfl (AOp_move ?_)
   all_goals (try simp only [push_cast, Nat.reduceAdd])
   all_goals (try refine AOps_split 29 _ rfl (fun hg9 => ?_) (fun hg9 => ?_))
   all_goals (try (exfalso; (first | (cases hg9; done) | (simp at hg9; done) | (simp at hg9; omega)); done))
   all_goals (try simp only [decide_eq_true_eq, decide_eq_false_iff_not, Bool.not_eq_true', Bool.not_eq_false', Bool.not_eq_eq_eq_not, Bool.not_true, Bool.not_false] at hg9)
   all_goals first
    | refine AOps_skip rfl ?_
    | (refine AOps_cons rfl ?_
       refine AOp_move ?_)
   all_goals (try simp only [push_cast, Nat.reduceAdd])
   all_goals first
    | refine AOps_skip rfl ?_
    | (refine AOps_cons rfl ?_
       refine AOp_bin_int _ _ _ _ rfl rfl rfl ?_)
   all_goals (try simp only [push_cast, Nat.reduceAdd])
   all_goals refine AOps_cons rfl (AOp_pick _ rfl ?_)
   all_goals (refine AOps_cons rfl (AOp_assign ?_) <;> try simp only [push_cast, Nat.reduceAdd])
   all_goals refine AOps_nil ?_
   all_goals
    refine thenK_normal (hK2 _ ?_)
    try clear hK2
    refine AW_ret ?_
    repeat (first | refine thenK_ret ?_ | refine loopK_ret ?_ | refine blockK_ret ?_)
    refine ⟨by first | exact .inl rfl | exact .inr rfl, _, rfl, (by first | exact outok_app 0 rfl (Nat.zero_le _) (by simp) | exact outok_self), by simp [push_cast], ?_⟩
    simp only [push_cast, Nat.reduceAdd]
    unfold inName; (first | (simp [*]; done) | (simp; omega))
theorem isName1_ac (c : Int) (H : List AObj) : ACall Try.prog 80 [.int .u8 c] H (fun r H' => r = .bool (!inName c) ∧ H' = H) := by
  refine ACall_intro (H.length) Try.func80 rfl ?_
  simp only [Try.ntmps80, List.length_cons, List.length_nil, List.replicate, List.cons_append, List.nil_append, Nat.reduceAdd, Nat.reduceSub, Nat.zero_add]
  refine AW_seq_k (fun K10 hK10 => ?_)
  refine AW_region ?_
  all_goals (refine AOps_cons rfl (AOp_assign ?_) <;> try simp only [push_cast, Nat.reduceAdd])
  all_goals refine AOps_nil ?_
  all_goals
   refine thenK_normal (hK10 _ ?_)
   try clear hK10
   refine AW_seq_k (fun K11 hK11 => ?_)
   refine AW_region ?_
   all_goals refine AOps_cons rfl (AOp_move ?_)
   all_goals (try simp only [push_cast, Nat.reduceAdd])
   all_goals refine AOps_cons rfl (AOp_call _ _ _ rfl rfl ok81 ?_)
   all_goals (try simp only [push_cast, Nat.reduceAdd])
   all_goals refine (inName_ac c _).mono ?_
   all_goals rintro r H' ⟨rfl, rfl⟩
   all_goals (try simp only [push_cast, Nat.reduceAdd])
   all_goals (refine AOps_cons rfl (AOp_not _ rfl ?_) <;> try simp only [push_cast, Nat.reduceAdd])
   all_goals (refine AOps_cons rfl (AOp_assign ?_) <;> try simp only [push_cast, Nat.reduceAdd])
   all_goals refine AOps_nil ?_
   all_goals
    refine thenK_normal (hK11 _ ?_)
    try clear hK11
    refine AW_ret ?_
    repeat (first | refine thenK_ret ?_ | refine loopK_ret ?_ | refine blockK_ret ?_)
    refine ⟨by first | exact .inl rfl | exact .inr rfl, _, rfl, (by first | exact outok_app 0 rfl (Nat.zero_le _) (by simp) | exact outok_self), by simp [push_cast], ?_⟩
    simp only [push_cast, Nat.reduceAdd]
    (first | (simp; done) | (simp; omega) | omega)
theorem indexB_ac (s : List UInt8) (g : Nat) (caps : List AV) (p : UInt8 → Bool) (H : List AObj) (hlen : s.length < 1099511627776) (hg : callOk Try.prog g = true) (hsc : ScopedL H.length caps)
    (hf : ∀ i (h : i < s.length) X, ACall Try.prog g (.int .u8 (s[i]).toNat :: caps) (H ++ X) (fun r H' => r = .bool (p s[i]) ∧ H' = H ++ X)) :
    ACall Try.prog 90 [.sl .none (encB s), .fn g caps] H (fun r H' => ∃ n : Int, r = .int .i64 n ∧ (0 ≤ n ↔ s.any p = true) ∧ H' = H) := by
  refine ACall_intro (H.length) Try.func90 rfl ?_
  simp only [Try.ntmps90, List.length_cons, List.length_nil, List.replicate, List.cons_append, List.nil_append, Nat.reduceAdd, Nat.reduceSub, Nat.zero_add]
  refine AW_seq_k (fun K12 hK12 => ?_)
  refine AW_region ?_
  all_goals (refine AOps_cons rfl (AOp_assign ?_) <;> try simp only [push_cast, Nat.reduceAdd])
  all_goals refine AOps_nil ?_
  all_goals
   refine thenK_normal (hK12 _ ?_)
   try clear hK12
   refine AW_seq_k (fun K13 hK13 => ?_)
   refine AW_seq_k (fun K14 hK14 => ?_)
   refine AW_region ?_
   all_goals refine AOps_cons rfl (AOp_move ?_)
   all_goals (try simp only [push_cast, Nat.reduceAdd])
   all_goals (refine AOps_cons rfl (AOp_len_sl _ _ _ rfl sl108 ?_) <;> try simp only [push_cast, Nat.reduceAdd])
   all_goals (refine AOps_cons rfl (AOp_move ?_) <;> try simp only [push_cast, Nat.reduceAdd])
   all_goals refine AOps_nil ?_
   all_goals
    refine thenK_normal (hK14 _ ?_)
    try clear hK14
    refine AW_block ?_
    refine AW_loopR (maskG 19 [0, 0, 5, 0]) (fun (i : Nat) => [(8, .int .i64 i)]) (fun _ => _) (fun i => i ≤ s.length ∧ (s.take i).any p = false) (fun i => s.length - i) 0 ⟨Nat.zero_le _, by simp⟩ (by (simp only [push_cast, Nat.reduceAdd]; (first | refine weak_app0 ?_ | refine weak_same ?_); (repeat (first | exact SlotsOk.nil | refine SlotsOk.junk ?_ | refine SlotsOk.same (by first | (simp [push_cast]; done) | (simp [push_cast, Scoped, ScopedL, *]; done)) ?_ | refine SlotsOk.tok (by first | rfl | (simp; done)) (by first | (simp [push_cast]; done) | (simp [push_cast, Scoped, ScopedL, *]; done)) ?_ | refine SlotsOk.eq (by first | rfl | (congr 1; omega) | (simp; done) | (simp; omega)) (by first | (simp [push_cast]; done) | (simp [push_cast, Scoped, ScopedL, *]; done)) ?_)))) (fun i hi => ?_)
    (try simp only [push_cast, Nat.reduceAdd])
    refine AW_seq_k (fun K15 hK15 => ?_)
    refine AW_region ?_
    all_goals (refine AOps_cons rfl (AOp_bin_int _ _ _ _ rfl rfl rfl ?_) <;> try simp only [push_cast, Nat.reduceAdd])
    all_goals refine AOps_nil ?_
    all_goals
     refine thenK_normal (hK15 _ ?_)
     try clear hK15
     refine AW_seq_k (fun K16 hK16 => ?_)
     apply AW_cond
     case' hc => exact rfl
     case' hf =>
      intro hc17
      try (exfalso; (first | (cases hc17; done) | (simp at hc17; done) | (simp at hc17; omega)); done)
      all_goals (try simp only [decide_eq_true_eq, decide_eq_false_iff_not, Bool.not_eq_true', Bool.not_eq_false', Bool.not_eq_eq_eq_not, Bool.not_true, Bool.not_false] at hc17)
      all_goals
       refine AW_exit ?_
       repeat (first | refine thenK_exit ?_ | refine loopK_exit ?_ | refine blockK_other (by decide) ?_)
       refine blockK_same ?_
       refine thenK_normal (hK13 _ ?_)
       try clear hK13
       refine AW_seq_k (fun K18 hK18 => ?_)
       refine AW_region ?_
       all_goals (refine AOps_cons rfl (AOp_assign ?_) <;> try simp only [push_cast, Nat.reduceAdd])
       all_goals refine AOps_nil ?_
       all_goals
        refine thenK_normal (hK18 _ ?_)
        try clear hK18
        refine AW_ret ?_
        repeat (first | refine thenK_ret ?_ | refine loopK_ret ?_ | refine blockK_ret ?_)
        refine ⟨by first | exact .inl rfl | exact .inr rfl, _, rfl, (by first | exact outok_app 0 rfl (Nat.zero_le _) (by simp) | exact outok_self), by simp [push_cast], ?_⟩
        simp only [push_cast, Nat.reduceAdd]
        have hs : s.take i = s := List.take_of_length_le (by omega)
        rw [hs] at hi
        exact ⟨-1, rfl, ⟨by omega, fun h => by rw [hi.2] at h; cases h⟩, by simp⟩
     case' ht =>
      intro hc17
      try (exfalso; (first | (cases hc17; done) | (simp at hc17; done) | (simp at hc17; omega)); done)
      all_goals (try simp only [decide_eq_true_eq, decide_eq_false_iff_not, Bool.not_eq_true', Bool.not_eq_false', Bool.not_eq_eq_eq_not, Bool.not_true, Bool.not_false] at hc17)
      all_goals
       refine AW_skip ?_
       refine thenK_normal (hK16 _ ?_)
       try clear hK16
       refine AW_seq_k (fun K19 hK19 => ?_)
       refine AW_block ?_
       refine AW_seq_k (fun K20 hK20 => ?_)
       refine AW_region ?_
       all_goals refine AOps_cons rfl (AOp_move ?_)
       all_goals (refine AOps_cons rfl (AOp_assign ?_) <;> try simp only [push_cast, Nat.reduceAdd])
       all_goals refine AOps_nil ?_
       all_goals
        refine thenK_normal (hK20 _ ?_)
        try clear hK20
        refine AW_seq_k (fun K21 hK21 => ?_)
        refine AW_region ?_
        all_goals refine AOps_cons rfl (AOp_move ?_)
        all_goals refine AOps_cons rfl (AOp_move ?_)
        all_goals refine AOps_cons rfl (AOp_move ?_)
        all_goals (try simp only [push_cast, Nat.reduceAdd])
        all_goals (refine AOps_cons rfl (AOp_indexAddr_sl 5 _ _ _ _ _ rfl rfl sl108 sz5 (by decide) (by exact uni_encB _) (by first | omega | (simp; omega)) (by first | omega | (simp [push_cast]; omega) | (simp [push_cast]; done)) ?_) <;> try simp only [push_cast, Nat.reduceAdd])
        all_goals (refine AOps_cons rfl (AOp_load1_cptr _ _ _ rfl sz5 ag5 rfl ?_) <;> try simp only [push_cast, Nat.reduceAdd])
        all_goals refine AOps_cons rfl (AOp_call _ _ _ rfl rfl hg ?_)
        all_goals have hfi := hf i (by omega) []
        all_goals simp only [List.append_nil] at hfi
        all_goals refine hfi.mono ?_
        all_goals rintro r H' ⟨rfl, rfl⟩
        all_goals (try simp only [push_cast, Nat.reduceAdd])
        all_goals refine AOps_nil ?_
        all_goals
         refine thenK_normal (hK21 _ ?_)
         try clear hK21
         apply AW_cond
         case' hc => exact rfl
         case' hf =>
          intro hc22
          try (exfalso; (first | (cases hc22; done) | (simp at hc22; done) | (simp at hc22; omega)); done)
          all_goals (try simp only [decide_eq_true_eq, decide_eq_false_iff_not, Bool.not_eq_true', Bool.not_eq_false', Bool.not_eq_eq_eq_not, Bool.not_true, Bool.not_false] at hc22)
          all_goals
           refine AW_skip ?_
           refine blockK_normal ?_
           refine thenK_normal (hK19 _ ?_)
           try clear hK19
           refine AW_region ?_
           all_goals refine AOps_cons rfl (AOp_bin_int _ _ _ _ rfl rfl rfl ?_)
           all_goals (try simp only [push_cast, Nat.reduceAdd])
           all_goals (try rw [IntWalk.i64_in _ (by omega)])
           all_goals (try simp only [push_cast, Nat.reduceAdd])
           all_goals (refine AOps_cons rfl (AOp_move ?_) <;> try simp only [push_cast, Nat.reduceAdd])
           all_goals refine AOps_nil ?_
           all_goals
            refine loopK_normal ?_
            exact ⟨i + 1, ⟨by omega, any_take_false hi.2 (by omega) (by assumption)⟩, by (simp only [push_cast, Nat.reduceAdd]; (first | refine weak_app0 ?_ | refine weak_same ?_); (repeat (first | exact SlotsOk.nil | refine SlotsOk.junk ?_ | refine SlotsOk.same (by first | (simp [push_cast]; done) | (simp [push_cast, Scoped, ScopedL, *]; done)) ?_ | refine SlotsOk.tok (by first | rfl | (simp; done)) (by first | (simp [push_cast]; done) | (simp [push_cast, Scoped, ScopedL, *]; done)) ?_ | refine SlotsOk.eq (by first | rfl | (congr 1; omega) | (simp; done) | (simp; omega)) (by first | (simp [push_cast]; done) | (simp [push_cast, Scoped, ScopedL, *]; done)) ?_))), by omega⟩
         case' ht =>
          intro hc22
          try (exfalso; (first | (cases hc22; done) | (simp at hc22; done) | (simp at hc22; omega)); done)
          all_goals (try simp only [decide_eq_true_eq, decide_eq_false_iff_not, Bool.not_eq_true', Bool.not_eq_false', Bool.not_eq_eq_eq_not, Bool.not_true, Bool.not_false] at hc22)
          all_goals
           refine AW_seq_k (fun K23 hK23 => ?_)
           refine AW_region ?_
           all_goals refine AOps_cons rfl (AOp_move ?_)
           all_goals (refine AOps_cons rfl (AOp_assign ?_) <;> try simp only [push_cast, Nat.reduceAdd])
           all_goals refine AOps_nil ?_
           all_goals
            refine thenK_normal (hK23 _ ?_)
            try clear hK23
            refine AW_ret ?_
            repeat (first | refine thenK_ret ?_ | refine loopK_ret ?_ | refine blockK_ret ?_)
            refine ⟨by first | exact .inl rfl | exact .inr rfl, _, rfl, (by first | exact outok_app 0 rfl (Nat.zero_le _) (by simp) | exact outok_self), by simp [push_cast], ?_⟩
            simp only [push_cast, Nat.reduceAdd]
            exact ⟨i, rfl, ⟨fun _ => any_get (xs := s) (i := i) (by omega) (by assumption), fun _ => by omega⟩, by simp⟩
theorem containsB_ac (s : List UInt8) (g : Nat) (caps : List AV) (p : UInt8 → Bool) (H : List AObj) (hlen : s.length < 1099511627776) (hg : callOk Try.prog g = true) (hsc : ScopedL H.length caps)
    (hf : ∀ i (h : i < s.length) X, ACall Try.prog g (.int .u8 (s[i]).toNat :: caps) (H ++ X) (fun r H' => r = .bool (p s[i]) ∧ H' = H ++ X)) :
    ACall Try.prog 79 [.sl .none (encB s), .fn g caps] H (fun r H' => r = .bool (s.any p) ∧ H' = H) := by
  refine ACall_intro (H.length) Try.func79 rfl ?_
  simp only [Try.ntmps79, List.length_cons, List.length_nil, List.replicate, List.cons_append, List.nil_append, Nat.reduceAdd, Nat.reduceSub, Nat.zero_add]
  refine AW_seq_k (fun K24 hK24 => ?_)
  refine AW_region ?_
  all_goals (refine AOps_cons rfl (AOp_assign ?_) <;> try simp only [push_cast, Nat.reduceAdd])
  all_goals refine AOps_nil ?_
  all_goals
   refine thenK_normal (hK24 _ ?_)
   try clear hK24
   refine AW_seq_k (fun K25 hK25 => ?_)
   refine AW_region ?_
   all_goals refine AOps_cons rfl (AOp_move ?_)
   all_goals refine AOps_cons rfl (AOp_move ?_)
   all_goals (try simp only [push_cast, Nat.reduceAdd])
   all_goals refine AOps_cons rfl (AOp_call _ _ _ rfl rfl ok90 ?_)
   all_goals (try simp only [push_cast, Nat.reduceAdd])
   all_goals refine (indexB_ac s g caps p _ hlen hg hsc hf).mono ?_
   all_goals rintro r H' ⟨n, rfl, hn, rfl⟩
   all_goals (try simp only [push_cast, Nat.reduceAdd])
   all_goals (refine AOps_cons rfl (AOp_bin_int _ _ _ _ rfl rfl rfl ?_) <;> try simp only [push_cast, Nat.reduceAdd])
   all_goals (refine AOps_cons rfl (AOp_assign ?_) <;> try simp only [push_cast, Nat.reduceAdd])
   all_goals refine AOps_nil ?_
   all_goals
    refine thenK_normal (hK25 _ ?_)
    try clear hK25
    refine AW_ret ?_
    repeat (first | refine thenK_ret ?_ | refine loopK_ret ?_ | refine blockK_ret ?_)
    refine ⟨by first | exact .inl rfl | exact .inr rfl, _, rfl, (by first | exact outok_app 0 rfl (Nat.zero_le _) (by simp) | exact outok_self), by simp [push_cast], ?_⟩
    simp only [push_cast, Nat.reduceAdd]
    simp only [hn, and_true]; cases s.any p <;> simp
theorem hasSuffix_ac (s suf : List UInt8) (H : List AObj) (h1 : s.length < 1099511627776) (h2 : suf.length < 1099511627776) :
    ACall Try.prog 93 [.str s, .str suf] H (fun r H' => r = .bool (decide (suf.length ≤ s.length ∧ s.drop (s.length - suf.length) = suf)) ∧ H' = H) := by
  refine ACall_intro (H.length) Try.func93 rfl ?_
  simp only [Try.ntmps93, List.length_cons, List.length_nil, List.replicate, List.cons_append, List.nil_append, Nat.reduceAdd, Nat.reduceSub, Nat.zero_add]
  refine AW_seq_k (fun K26 hK26 => ?_)
  refine AW_region ?_
  all_goals (refine AOps_cons rfl (AOp_assign ?_) <;> try simp only [push_cast, Nat.reduceAdd])
  all_goals refine AOps_nil ?_
  all_goals
   refine thenK_normal (hK26 _ ?_)
   try clear hK26
   refine AW_seq_k (fun K27 hK27 => ?_)
   refine AW_region ?_
   all_goals refine AOps_cons rfl (AOp_move ?_)
   all_goals (try simp only [push_cast, Nat.reduceAdd])
   all_goals (refine AOps_cons rfl (AOp_len_str _ rfl un9 ?_) <;> try simp only [push_cast, Nat.reduceAdd])
   all_goals refine AOps_cons rfl (AOp_move ?_)
   all_goals (try simp only [push_cast, Nat.reduceAdd])
   all_goals (refine AOps_cons rfl (AOp_len_str _ rfl un9 ?_) <;> try simp only [push_cast, Nat.reduceAdd])
   all_goals (refine AOps_cons rfl (AOp_bin_int _ _ _ _ rfl rfl rfl ?_) <;> try simp only [push_cast, Nat.reduceAdd])
   all_goals refine AOps_cons rfl (AOp_move ?_)
   all_goals (try simp only [push_cast, Nat.reduceAdd])
   all_goals (try refine AOps_split 10 _ rfl (fun hg28 => ?_) (fun hg28 => ?_))
   all_goals (try (exfalso; (first | (cases hg28; done) | (simp at hg28; done) | (simp at hg28; omega)); done))
   all_goals (try simp only [decide_eq_true_eq, decide_eq_false_iff_not, Bool.not_eq_true', Bool.not_eq_false', Bool.not_eq_eq_eq_not, Bool.not_true, Bool.not_false] at hg28)
   all_goals first
    | refine AOps_skip rfl ?_
    | (refine AOps_cons rfl ?_
       refine AOp_move ?_)
   all_goals (try simp only [push_cast, Nat.reduceAdd])
   all_goals first
    | refine AOps_skip rfl ?_
    | (refine AOps_cons rfl ?_
       refine AOp_move ?_)
   all_goals (try simp only [push_cast, Nat.reduceAdd])
   all_goals first
    | refine AOps_skip rfl ?_
    | (refine AOps_cons rfl ?_
       refine AOp_len_str _ rfl un9 ?_)
   all_goals (try simp only [push_cast, Nat.reduceAdd])
   all_goals first
    | refine AOps_skip rfl ?_
    | (refine AOps_cons rfl ?_
       refine AOp_move ?_)
   all_goals (try simp only [push_cast, Nat.reduceAdd])
   all_goals first
    | refine AOps_skip rfl ?_
    | (refine AOps_cons rfl ?_
       refine AOp_len_str _ rfl un9 ?_)
   all_goals (try simp only [push_cast, Nat.reduceAdd])
   all_goals first
    | refine AOps_skip rfl ?_
    | (refine AOps_cons rfl ?_
       refine AOp_bin_int _ _ _ _ rfl rfl rfl ?_
       (try simp only [push_cast, Nat.reduceAdd])
       (try rw [IntWalk.i64_in _ (by omega)]))
   all_goals (try simp only [push_cast, Nat.reduceAdd])
   all_goals first
    | refine AOps_skip rfl ?_
    | (refine AOps_cons rfl ?_
       refine AOp_slice_str s (s.length - suf.length) s.length rfl un9 (.inr ⟨_, .i64, rfl, by simp [push_cast]; omega⟩) (.inl ⟨rfl, rfl⟩) (by omega) (by omega) ?_)
   all_goals (try simp only [push_cast, Nat.reduceAdd])
   all_goals first
    | refine AOps_skip rfl ?_
    | (refine AOps_cons rfl ?_
       refine AOp_move ?_)
   all_goals (try simp only [push_cast, Nat.reduceAdd])
   all_goals first
    | refine AOps_skip rfl ?_
    | (refine AOps_cons rfl ?_
       refine AOp_bin_str _ _ _ rfl rfl rfl ?_)
   all_goals (try simp only [push_cast, Nat.reduceAdd])
   all_goals refine AOps_cons rfl (AOp_pick _ rfl ?_)
   all_goals (refine AOps_cons rfl (AOp_assign ?_) <;> try simp only [push_cast, Nat.reduceAdd])
   all_goals refine AOps_nil ?_
   all_goals
    refine thenK_normal (hK27 _ ?_)
    try clear hK27
    refine AW_ret ?_
    repeat (first | refine thenK_ret ?_ | refine loopK_ret ?_ | refine blockK_ret ?_)
    refine ⟨by first | exact .inl rfl | exact .inr rfl, _, rfl, (by first | exact outok_app 0 rfl (Nat.zero_le _) (by simp) | exact outok_self), by simp [push_cast], ?_⟩
    simp only [push_cast, Nat.reduceAdd]
    have e : (s.drop (s.length - suf.length)).take (s.length - (s.length - suf.length)) = s.drop (s.length - suf.length) := List.take_of_length_le (by simp)
    by_cases h : suf.length ≤ s.length <;> first | (simp [h, e]; done) | (exfalso; omega)
theorem trimSuffix_ac (s suf : List UInt8) (H : List AObj) (h1 : s.length < 1099511627776) (h2 : suf.length < 1099511627776) :
    ACall Try.prog 89 [.str s, .str suf] H (fun r H' => r = .str (trimSuffix s suf) ∧ H' = H) := by
  refine ACall_intro (H.length) Try.func89 rfl ?_
  simp only [Try.ntmps89, List.length_cons, List.length_nil, List.replicate, List.cons_append, List.nil_append, Nat.reduceAdd, Nat.reduceSub, Nat.zero_add]
  refine AW_seq_k (fun K29 hK29 => ?_)
  refine AW_region ?_
  all_goals (refine AOps_cons rfl (AOp_assign ?_) <;> try simp only [push_cast, Nat.reduceAdd])
  all_goals refine AOps_nil ?_
  all_goals
   refine thenK_normal (hK29 _ ?_)
   try clear hK29
   refine AW_seq_k (fun K30 hK30 => ?_)
   refine AW_seq_k (fun K31 hK31 => ?_)
   refine AW_region ?_
   all_goals refine AOps_cons rfl (AOp_move ?_)
   all_goals refine AOps_cons rfl (AOp_move ?_)
   all_goals (try simp only [push_cast, Nat.reduceAdd])
   all_goals refine AOps_cons rfl (AOp_call _ _ _ rfl rfl ok93 ?_)
   all_goals (try simp only [push_cast, Nat.reduceAdd])
   all_goals refine (hasSuffix_ac s suf _ h1 h2).mono ?_
   all_goals rintro r H' ⟨rfl, rfl⟩
   all_goals (try simp only [push_cast, Nat.reduceAdd])
   all_goals refine AOps_nil ?_
   all_goals
    refine thenK_normal (hK31 _ ?_)
    try clear hK31
    apply AW_cond
    case' hc => exact rfl
    case' hf =>
     intro hc32
     try (exfalso; (first | (cases hc32; done) | (simp at hc32; done) | (simp at hc32; omega)); done)
     all_goals (try simp only [decide_eq_true_eq, decide_eq_false_iff_not, Bool.not_eq_true', Bool.not_eq_false', Bool.not_eq_eq_eq_not, Bool.not_true, Bool.not_false] at hc32)
     all_goals
      refine AW_skip ?_
      refine thenK_normal (hK30 _ ?_)
      try clear hK30
      refine AW_seq_k (fun K33 hK33 => ?_)
      refine AW_region ?_
      all_goals refine AOps_cons rfl (AOp_move ?_)
      all_goals (refine AOps_cons rfl (AOp_assign ?_) <;> try simp only [push_cast, Nat.reduceAdd])
      all_goals refine AOps_nil ?_
      all_goals
       refine thenK_normal (hK33 _ ?_)
       try clear hK33
       refine AW_ret ?_
       repeat (first | refine thenK_ret ?_ | refine loopK_ret ?_ | refine blockK_ret ?_)
       refine ⟨by first | exact .inl rfl | exact .inr rfl, _, rfl, (by first | exact outok_app 0 rfl (Nat.zero_le _) (by simp) | exact outok_self), by simp [push_cast], ?_⟩
       simp only [push_cast, Nat.reduceAdd]
       unfold trimSuffix; (first | (simp [*]; done) | (simp; omega))
    case' ht =>
     intro hc32
     try (exfalso; (first | (cases hc32; done) | (simp at hc32; done) | (simp at hc32; omega)); done)
     all_goals (try simp only [decide_eq_true_eq, decide_eq_false_iff_not, Bool.not_eq_true', Bool.not_eq_false', Bool.not_eq_eq_eq_not, Bool.not_true, Bool.not_false] at hc32)
     all_goals
      refine AW_seq_k (fun K34 hK34 => ?_)
      refine AW_region ?_
      all_goals refine AOps_cons rfl (AOp_move ?_)
      all_goals refine AOps_cons rfl (AOp_move ?_)
      all_goals (try simp only [push_cast, Nat.reduceAdd])
      all_goals (refine AOps_cons rfl (AOp_len_str _ rfl un9 ?_) <;> try simp only [push_cast, Nat.reduceAdd])
      all_goals refine AOps_cons rfl (AOp_move ?_)
      all_goals (try simp only [push_cast, Nat.reduceAdd])
      all_goals (refine AOps_cons rfl (AOp_len_str _ rfl un9 ?_) <;> try simp only [push_cast, Nat.reduceAdd])
      all_goals refine AOps_cons rfl (AOp_bin_int _ _ _ _ rfl rfl rfl ?_)
      all_goals (try simp only [push_cast, Nat.reduceAdd])
      all_goals (try rw [IntWalk.i64_in _ (by omega)])
      all_goals (try simp only [push_cast, Nat.reduceAdd])
      all_goals (refine AOps_cons rfl (AOp_slice_str s 0 (s.length - suf.length) rfl un9 (.inl ⟨rfl, rfl⟩) (.inr ⟨_, .i64, rfl, by simp [push_cast]; omega⟩) (by omega) (by omega) ?_) <;> try simp only [push_cast, Nat.reduceAdd])
      all_goals (refine AOps_cons rfl (AOp_assign ?_) <;> try simp only [push_cast, Nat.reduceAdd])
      all_goals refine AOps_nil ?_
      all_goals
       refine thenK_normal (hK34 _ ?_)
       try clear hK34
       refine AW_ret ?_
       repeat (first | refine thenK_ret ?_ | refine loopK_ret ?_ | refine blockK_ret ?_)
       refine ⟨by first | exact .inl rfl | exact .inr rfl, _, rfl, (by first | exact outok_app 0 rfl (Nat.zero_le _) (by simp) | exact outok_self), by simp [push_cast], ?_⟩
       simp only [push_cast, Nat.reduceAdd]
       unfold trimSuffix; (first | (simp [*]; done) | (simp; omega))
theorem trimSuffix'_ac (s suf : List UInt8) (H : List AObj) (h1 : s.length < 1099511627776) (h2 : suf.length < 1099511627776) :
    ACall Try.prog 78 [.str s, .str suf] H (fun r H' => r = .str (trimSuffix s suf) ∧ H' = H) := by
  refine ACall_intro (H.length) Try.func78 rfl ?_
  simp only [Try.ntmps78, List.length_cons, List.length_nil, List.replicate, List.cons_append, List.nil_append, Nat.reduceAdd, Nat.reduceSub, Nat.zero_add]
  refine AW_seq_k (fun K35 hK35 => ?_)
  refine AW_region ?_
  all_goals (refine AOps_cons rfl (AOp_assign ?_) <;> try simp only [push_cast, Nat.reduceAdd])
  all_goals refine AOps_nil ?_
  all_goals
   refine thenK_normal (hK35 _ ?_)
   try clear hK35
   refine AW_seq_k (fun K36 hK36 => ?_)
   refine AW_region ?_
   all_goals refine AOps_cons rfl (AOp_move ?_)
   all_goals refine AOps_cons rfl (AOp_move ?_)
   all_goals (try simp only [push_cast, Nat.reduceAdd])
   all_goals refine AOps_cons rfl (AOp_call _ _ _ rfl rfl ok89 ?_)
   all_goals (try simp only [push_cast, Nat.reduceAdd])
   all_goals refine (trimSuffix_ac s suf _ h1 h2).mono ?_
   all_goals rintro r H' ⟨rfl, rfl⟩
   all_goals (try simp only [push_cast, Nat.reduceAdd])
   all_goals (refine AOps_cons rfl (AOp_assign ?_) <;> try simp only [push_cast, Nat.reduceAdd])
   all_goals refine AOps_nil ?_
   all_goals
    refine thenK_normal (hK36 _ ?_)
    try clear hK36
    refine AW_ret ?_
    repeat (first | refine thenK_ret ?_ | refine loopK_ret ?_ | refine blockK_ret ?_)
    refine ⟨by first | exact .inl rfl | exact .inr rfl, _, rfl, (by first | exact outok_app 0 rfl (Nat.zero_le _) (by simp) | exact outok_self), by simp [push_cast], ?_⟩
    simp only [push_cast, Nat.reduceAdd]
    (first | (simp; done) | (simp; omega) | omega)
theorem trimSuffix_length (s suf : List UInt8) : (trimSuffix s suf).length ≤ s.length := by
  unfold trimSuffix; split <;> simp
theorem isName_ac (s : List UInt8) (m : Bool) (H : List AObj) (h1 : s.length < 1099511627776) :
    ACall Try.prog 64 [.str s, .bool m] H (fun r H' => r = .bool (isNameP s m) ∧ H' = H) := by
  have hl := trimSuffix_length s [35]
  refine ACall_intro (H.length) Try.func64 rfl ?_
  simp only [Try.ntmps64, List.length_cons, List.length_nil, List.replicate, List.cons_append, List.nil_append, Nat.reduceAdd, Nat.reduceSub, Nat.zero_add]
  refine AW_seq_k (fun K37 hK37 => ?_)
  refine AW_region ?_
  all_goals (refine AOps_cons rfl (AOp_assign ?_) <;> try simp only [push_cast, Nat.reduceAdd])
  all_goals refine AOps_nil ?_
  all_goals
   refine thenK_normal (hK37 _ ?_)
   try clear hK37
   refine AW_seq_k (fun K38 hK38 => ?_)
   refine AW_seq_k (fun K39 hK39 => ?_)
   refine AW_region ?_
   all_goals refine AOps_cons rfl (AOp_move ?_)
   all_goals (try simp only [push_cast, Nat.reduceAdd])
   all_goals (refine AOps_cons rfl (AOp_len_str _ rfl un9 ?_) <;> try simp only [push_cast, Nat.reduceAdd])
   all_goals (refine AOps_cons rfl (AOp_bin_int _ _ _ _ rfl rfl rfl ?_) <;> try simp only [push_cast, Nat.reduceAdd])
   all_goals refine AOps_nil ?_
   all_goals
    refine thenK_normal (hK39 _ ?_)
    try clear hK39
    apply AW_cond
    case' hc => exact rfl
    case' hf =>
     intro hc40
     try (exfalso; (first | (cases hc40; done) | (simp at hc40; done) | (simp at hc40; omega)); done)
     all_goals (try simp only [decide_eq_true_eq, decide_eq_false_iff_not, Bool.not_eq_true', Bool.not_eq_false', Bool.not_eq_eq_eq_not, Bool.not_true, Bool.not_false] at hc40)
     all_goals
      refine AW_skip ?_
      refine thenK_normal (hK38 _ ?_)
      try clear hK38
      refine AW_seq_k (fun K41 hK41 => ?_)
      refine AW_seq_k (fun K42 hK42 => ?_)
      refine AW_region ?_
      all_goals (refine AOps_cons rfl (AOp_move ?_) <;> try simp only [push_cast, Nat.reduceAdd])
      all_goals refine AOps_nil ?_
      all_goals
       refine thenK_normal (hK42 _ ?_)
       try clear hK42
       apply AW_cond
       case' hc => exact rfl
       case' hf =>
        intro hc43
        try (exfalso; (first | (cases hc43; done) | (simp at hc43; done) | (simp at hc43; omega)); done)
        all_goals (try simp only [decide_eq_true_eq, decide_eq_false_iff_not, Bool.not_eq_true', Bool.not_eq_false', Bool.not_eq_eq_eq_not, Bool.not_true, Bool.not_false] at hc43)
        all_goals
         refine AW_skip ?_
       case' ht =>
        intro hc43
        try (exfalso; (first | (cases hc43; done) | (simp at hc43; done) | (simp at hc43; omega)); done)
        all_goals (try simp only [decide_eq_true_eq, decide_eq_false_iff_not, Bool.not_eq_true', Bool.not_eq_false', Bool.not_eq_eq_eq_not, Bool.not_true, Bool.not_false] at hc43)
        all_goals
         refine AW_region ?_
         all_goals refine AOps_cons rfl (AOp_move ?_)
         all_goals (try simp only [push_cast, Nat.reduceAdd])
         all_goals refine AOps_cons rfl (AOp_call _ _ _ rfl rfl ok78 ?_)
         all_goals (try simp only [push_cast, Nat.reduceAdd])
         all_goals refine (trimSuffix'_ac s [35] _ h1 (by simp)).mono ?_
         all_goals rintro r H' ⟨rfl, rfl⟩
         all_goals (try simp only [push_cast, Nat.reduceAdd])
         all_goals (refine AOps_cons rfl (AOp_assign ?_) <;> try simp only [push_cast, Nat.reduceAdd])
         all_goals refine AOps_nil ?_
       all_goals
        refine thenK_normal (hK41 _ ?_)
        try clear hK41
        refine AW_seq_k (fun K44 hK44 => ?_)
        refine AW_region ?_
        all_goals refine AOps_cons rfl (AOp_move ?_)
        all_goals (try simp only [push_cast, Nat.reduceAdd])
        all_goals (refine AOps_cons rfl (AOp_bin_str _ _ _ rfl rfl rfl ?_) <;> try simp only [push_cast, Nat.reduceAdd])
        all_goals refine AOps_cons rfl (AOp_move ?_)
        all_goals (try simp only [push_cast, Nat.reduceAdd])
        all_goals (try refine AOps_split 13 _ rfl (fun hg45 => ?_) (fun hg45 => ?_))
        all_goals (try (exfalso; (first | (cases hg45; done) | (simp at hg45; done) | (simp at hg45; omega)); done))
        all_goals (try simp only [decide_eq_true_eq, decide_eq_false_iff_not, Bool.not_eq_true', Bool.not_eq_false', Bool.not_eq_eq_eq_not, Bool.not_true, Bool.not_false] at hg45)
        all_goals first
         | refine AOps_skip rfl ?_
         | (refine AOps_cons rfl ?_
            refine AOp_move ?_)
        all_goals (try simp only [push_cast, Nat.reduceAdd])
        all_goals first
         | refine AOps_skip rfl ?_
         | (refine AOps_cons rfl ?_
            refine AOp_convert_bytes _ rfl sl108 un5 un9 (by omega) ?_)
        all_goals (try simp only [push_cast, Nat.reduceAdd])
        all_goals first
         | refine AOps_skip rfl ?_
         | (refine AOps_cons rfl ?_
            refine AOp_call _ _ _ rfl rfl ok79 ?_
            (try simp only [push_cast, Nat.reduceAdd])
            refine (containsB_ac _ 80 [] (fun c => !inNameB c) _ (by omega) ok80 (by simp [ScopedL]) (fun i h X => isName1_ac _ _)).mono ?_
            rintro r H' ⟨rfl, rfl⟩)
        all_goals (try simp only [push_cast, Nat.reduceAdd])
        all_goals first
         | refine AOps_skip rfl ?_
         | (refine AOps_cons rfl ?_
            refine AOp_not _ rfl ?_)
        all_goals (try simp only [push_cast, Nat.reduceAdd])
        all_goals refine AOps_cons rfl (AOp_pick _ rfl ?_)
        all_goals (refine AOps_cons rfl (AOp_assign ?_) <;> try simp only [push_cast, Nat.reduceAdd])
        all_goals refine AOps_nil ?_
        all_goals
         refine thenK_normal (hK44 _ ?_)
         try clear hK44
         refine AW_ret ?_
         repeat (first | refine thenK_ret ?_ | refine loopK_ret ?_ | refine blockK_ret ?_)
         refine ⟨by first | exact .inl rfl | exact .inr rfl, _, rfl, (by first | exact outok_app 0 rfl (Nat.zero_le _) (by simp) | exact outok_self), by simp [push_cast], ?_⟩
         simp only [push_cast, Nat.reduceAdd]
         first | (have h24 : ¬ s.length ≤ 24 := (by omega); simp [isNameP, h24]; done) | (have h24 : s.length ≤ 24 := (by omega); simp [isNameP, h24, *]; done) | trace_state
    case' ht =>
     intro hc40
     try (exfalso; (first | (cases hc40; done) | (simp at hc40; done) | (simp at hc40; omega)); done)
     all_goals (try simp only [decide_eq_true_eq, decide_eq_false_iff_not, Bool.not_eq_true', Bool.not_eq_false', Bool.not_eq_eq_eq_not, Bool.not_true, Bool.not_false] at hc40)
     all_goals
      refine AW_seq_k (fun K46 hK46 => ?_)
      refine AW_region ?_
      all_goals (refine AOps_cons rfl (AOp_assign ?_) <;> try simp only [push_cast, Nat.reduceAdd])
      all_goals refine AOps_nil ?_
      all_goals
       refine thenK_normal (hK46 _ ?_)
       try clear hK46
       refine AW_ret ?_
       repeat (first | refine thenK_ret ?_ | refine loopK_ret ?_ | refine blockK_ret ?_)
       refine ⟨by first | exact .inl rfl | exact .inr rfl, _, rfl, (by first | exact outok_app 0 rfl (Nat.zero_le _) (by simp) | exact outok_self), by simp [push_cast], ?_⟩
       simp only [push_cast, Nat.reduceAdd]
       first | (have h24 : ¬ s.length ≤ 24 := (by omega); simp [isNameP, h24]; done) | (have h24 : s.length ≤ 24 := (by omega); simp [isNameP, h24, *]; done) | trace_state
end Ab
set_option maxRecDepth 10000
namespace Ab
open Go Go.Proofs
attribute [local push_cast] encT
theorem size_ac (t : Term) : t.bulk ≤ 1099511627776 → ∀ H, ACall Try.prog 84 [encT t] H (fun r H' => r = .int .i64 t.size ∧ H' = H) := by
  refine Term.ind (p := fun t => t.bulk ≤ 1099511627776 → ∀ H, ACall Try.prog 84 [encT t] H (fun r H' => r = .int .i64 t.size ∧ H' = H)) (fun n v xs ih => ?_) t
  intro hb H
  have hs := (Term.mk n v xs).size_le
  have hlen := Term.len_le (n := n) (v := v) (xs := xs)
  rw [Term.size_mk] at hs ⊢
  simp only [encT, Term.name, Term.var, Term.args]
  refine ACall_intro (H.length) Try.func84 rfl ?_
  simp only [Try.ntmps84, List.length_cons, List.length_nil, List.replicate, List.cons_append, List.nil_append, Nat.reduceAdd, Nat.reduceSub, Nat.zero_add]
  refine AW_seq_k (fun K1 hK1 => ?_)
  refine AW_region ?_
  all_goals (refine AOps_cons rfl (AOp_box _ _ rfl rfl (by first | exact .inl rfl | exact .inr ⟨_, rfl⟩) (by simp [push_cast, AV.isCell]) ?_) <;> try simp only [push_cast, Nat.reduceAdd])
  all_goals (refine AOps_cons rfl (AOp_assign ?_) <;> try simp only [push_cast, Nat.reduceAdd])
  all_goals refine AOps_nil ?_
  all_goals
   refine thenK_normal (hK1 _ ?_)
   try clear hK1
   refine AW_seq_k (fun K2 hK2 => ?_)
   refine AW_region ?_
   all_goals (refine AOps_cons rfl (AOp_assign ?_) <;> try simp only [push_cast, Nat.reduceAdd])
   all_goals refine AOps_nil ?_
   all_goals
    refine thenK_normal (hK2 _ ?_)
    try clear hK2
    refine AW_seq_k (fun K3 hK3 => ?_)
    refine AW_seq_k (fun K4 hK4 => ?_)
    refine AW_region ?_
    all_goals (refine AOps_cons rfl (AOp_fieldAddr_ptr _ _ _ _ rfl fd27_2 (by decide) ?_) <;> try simp only [push_cast, Nat.reduceAdd])
    all_goals (refine AOps_cons rfl (AOp_load1_ptr _ _ _ _ _ rfl (by first | exact hget0 | exact hgetN _ rfl | assumption | exact hgetL (by assumption)) sz25 ag25 (by decide) (by simp [push_cast]) rfl ?_) <;> try simp only [push_cast, Nat.reduceAdd])
    all_goals (refine AOps_cons rfl (AOp_len_sl _ _ _ rfl sl25 ?_) <;> try simp only [push_cast, Nat.reduceAdd])
    all_goals (refine AOps_cons rfl (AOp_move ?_) <;> try simp only [push_cast, Nat.reduceAdd])
    all_goals refine AOps_nil ?_
    all_goals
     refine thenK_normal (hK4 _ ?_)
     try clear hK4
     refine AW_block ?_
     refine AW_loopR (maskG 19 [3, 3, 0, 0]) (fun (i : Nat) => [(9, .int .i64 i), (3, .int .i64 (1 + ((xs.take i).map Term.size).sum : Nat))]) (fun _ => _) (fun i => i ≤ xs.length) (fun i => xs.length - i) 0 (Nat.zero_le _) (by (simp only [push_cast, Nat.reduceAdd]; refine weak_app 1 ?_ (by simp) (by simp [push_cast]); (repeat (first | exact SlotsOk.nil | refine SlotsOk.junk ?_ | refine SlotsOk.same (by first | (simp [push_cast]; done) | (simp [push_cast, Scoped, ScopedL, *]; done)) ?_ | refine SlotsOk.tok (by first | rfl | (simp; done)) (by first | (simp [push_cast]; done) | (simp [push_cast, Scoped, ScopedL, *]; done)) ?_ | refine SlotsOk.eq (by first | rfl | (congr 1; omega) | (simp; done) | (simp; omega)) (by first | (simp [push_cast]; done) | (simp [push_cast, Scoped, ScopedL, *]; done)) ?_)))) (fun i hi => ?_)
     (try simp only [push_cast, Nat.reduceAdd])
     refine AW_seq_k (fun K5 hK5 => ?_)
     refine AW_region ?_
     all_goals (refine AOps_cons rfl (AOp_bin_int _ _ _ _ rfl rfl rfl ?_) <;> try simp only [push_cast, Nat.reduceAdd])
     all_goals refine AOps_nil ?_
     all_goals
      refine thenK_normal (hK5 _ ?_)
      try clear hK5
      refine AW_seq_k (fun K6 hK6 => ?_)
      apply AW_cond
      case' hc => exact rfl
      case' hf =>
       intro hc7
       try (exfalso; (first | (cases hc7; done) | (simp at hc7; done) | (simp at hc7; omega)); done)
       all_goals (try simp only [decide_eq_true_eq, decide_eq_false_iff_not, Bool.not_eq_true', Bool.not_eq_false', Bool.not_eq_eq_eq_not, Bool.not_true, Bool.not_false] at hc7)
       all_goals
        refine AW_exit ?_
        repeat (first | refine thenK_exit ?_ | refine loopK_exit ?_ | refine blockK_other (by decide) ?_)
        refine blockK_same ?_
        refine thenK_normal (hK3 _ ?_)
        try clear hK3
        refine AW_seq_k (fun K8 hK8 => ?_)
        refine AW_region ?_
        all_goals refine AOps_cons rfl (AOp_move ?_)
        all_goals (refine AOps_cons rfl (AOp_assign ?_) <;> try simp only [push_cast, Nat.reduceAdd])
        all_goals refine AOps_nil ?_
        all_goals
         refine thenK_normal (hK8 _ ?_)
         try clear hK8
         refine AW_ret ?_
         repeat (first | refine thenK_ret ?_ | refine loopK_ret ?_ | refine blockK_ret ?_)
         have e : xs.take i = xs := List.take_of_length_le (by omega)
         rw [e]
         refine ⟨by first | exact .inl rfl | exact .inr rfl, _, rfl, (by first | exact outok_app 0 rfl (Nat.zero_le _) (by simp) | exact outok_self), by simp [push_cast], ?_⟩
         simp only [push_cast, Nat.reduceAdd]
         (first | (simp; done) | (simp; omega) | omega)
      case' ht =>
       intro hc7
       try (exfalso; (first | (cases hc7; done) | (simp at hc7; done) | (simp at hc7; omega)); done)
       all_goals (try simp only [decide_eq_true_eq, decide_eq_false_iff_not, Bool.not_eq_true', Bool.not_eq_false', Bool.not_eq_eq_eq_not, Bool.not_true, Bool.not_false] at hc7)
       all_goals
        refine AW_skip ?_
        refine thenK_normal (hK6 _ ?_)
        try clear hK6
        refine AW_seq_k (fun K9 hK9 => ?_)
        refine AW_block ?_
        refine AW_seq_k (fun K10 hK10 => ?_)
        refine AW_region ?_
        all_goals (refine AOps_cons rfl (AOp_indexAddr_sl 27 _ _ _ _ _ rfl rfl sl25 sz27 (by decide) (by exact uni_encTs _) (by first | omega | (simp; omega)) (by first | omega | (simp [push_cast]; omega) | (simp [push_cast]; done)) ?_) <;> try simp only [push_cast, Nat.reduceAdd])
        all_goals (refine AOps_cons rfl (AOp_load_cptr _ _ rfl sz27 ag27 (by simp [push_cast]) ?_) <;> try simp only [push_cast, Nat.reduceAdd])
        all_goals (refine AOps_cons rfl (AOp_alloc _ zr27 (by simp [ofVal, AV.isCell, Value.oneCell']) ?_) <;> try simp only [push_cast, Nat.reduceAdd])
        all_goals (refine AOps_cons rfl (AOp_store _ _ _ _ _ rfl (by first | exact hget0 | exact hgetN _ rfl | assumption | exact hgetL (by assumption)) rfl rfl (by first | exact .inl rfl | exact .inr ⟨_, rfl⟩) (by simp [push_cast, AV.isCell]) sz27 (by simp [push_cast]) ?_) <;> try simp only [push_cast, Nat.reduceAdd])
        all_goals refine AOps_nil ?_
        all_goals
         refine thenK_normal (hK10 _ ?_)
         try clear hK10
         refine AW_region ?_
         all_goals refine AOps_cons rfl (AOp_move ?_)
         all_goals (try simp only [push_cast, Nat.reduceAdd])
         all_goals (refine AOps_cons rfl (AOp_load_ptr _ _ _ _ rfl (by first | exact hget0 | exact hgetN _ rfl | assumption | exact hgetL (by assumption)) sz27 ag27 (by simp [push_cast]) ?_) <;> try simp only [push_cast, Nat.reduceAdd])
         all_goals refine AOps_cons rfl (AOp_call _ _ _ rfl rfl ok84 ?_)
         all_goals (try simp only [push_cast, Nat.reduceAdd])
         all_goals have e := take_sum Term.size xs i (by omega)
         all_goals have hle := take_sum_le Term.size xs (i + 1)
         all_goals have hmem : xs[i]'(by omega) ∈ xs := by simp
         all_goals have hbx := Term.arg_le (n := n) (v := v) hmem
         all_goals refine (ih (xs[i]'(by omega)) hmem (by omega) _).mono ?_
         all_goals rintro r H' ⟨rfl, rfl⟩
         all_goals (try simp only [push_cast, Nat.reduceAdd])
         all_goals refine AOps_cons rfl (AOp_bin_int _ _ _ _ rfl rfl rfl ?_)
         all_goals (try simp only [push_cast, Nat.reduceAdd])
         all_goals (try rw [IntWalk.i64_in _ (by omega)])
         all_goals (try simp only [push_cast, Nat.reduceAdd])
         all_goals (refine AOps_cons rfl (AOp_assign ?_) <;> try simp only [push_cast, Nat.reduceAdd])
         all_goals refine AOps_nil ?_
         all_goals
          refine blockK_normal ?_
          refine thenK_normal (hK9 _ ?_)
          try clear hK9
          refine AW_region ?_
          all_goals refine AOps_cons rfl (AOp_bin_int _ _ _ _ rfl rfl rfl ?_)
          all_goals (try simp only [push_cast, Nat.reduceAdd])
          all_goals (try rw [IntWalk.i64_in _ (by omega)])
          all_goals (try simp only [push_cast, Nat.reduceAdd])
          all_goals (refine AOps_cons rfl (AOp_move ?_) <;> try simp only [push_cast, Nat.reduceAdd])
          all_goals refine AOps_nil ?_
          all_goals
           refine loopK_normal ?_
           exact ⟨i + 1, by omega, by (simp only [push_cast, Nat.reduceAdd]; refine weak_app 1 ?_ (by simp) (by simp [push_cast]); (repeat (first | exact SlotsOk.nil | refine SlotsOk.junk ?_ | refine SlotsOk.same (by first | (simp [push_cast]; done) | (simp [push_cast, Scoped, ScopedL, *]; done)) ?_ | refine SlotsOk.tok (by first | rfl | (simp; done)) (by first | (simp [push_cast]; done) | (simp [push_cast, Scoped, ScopedL, *]; done)) ?_ | refine SlotsOk.eq (by first | rfl | (congr 1; omega) | (simp; done) | (simp; omega)) (by first | (simp [push_cast]; done) | (simp [push_cast, Scoped, ScopedL, *]; done)) ?_))), by omega⟩
theorem depth_ac (t : Term) : t.bulk ≤ 1099511627776 → ∀ H, ACall Try.prog 85 [encT t] H (fun r H' => r = .int .i64 t.depth ∧ H' = H) := by
  refine Term.ind (p := fun t => t.bulk ≤ 1099511627776 → ∀ H, ACall Try.prog 85 [encT t] H (fun r H' => r = .int .i64 t.depth ∧ H' = H)) (fun n v xs ih => ?_) t
  intro hb H
  have hs := (Term.mk n v xs).size_le
  have hd := (Term.mk n v xs).depth_le
  have hlen := Term.len_le (n := n) (v := v) (xs := xs)
  rw [Term.depth_mk] at hd ⊢
  simp only [encT, Term.name, Term.var, Term.args]
  refine ACall_intro (H.length) Try.func85 rfl ?_
  simp only [Try.ntmps85, List.length_cons, List.length_nil, List.replicate, List.cons_append, List.nil_append, Nat.reduceAdd, Nat.reduceSub, Nat.zero_add]
  refine AW_seq_k (fun K11 hK11 => ?_)
  refine AW_region ?_
  all_goals (refine AOps_cons rfl (AOp_box _ _ rfl rfl (by first | exact .inl rfl | exact .inr ⟨_, rfl⟩) (by simp [push_cast, AV.isCell]) ?_) <;> try simp only [push_cast, Nat.reduceAdd])
  all_goals (refine AOps_cons rfl (AOp_assign ?_) <;> try simp only [push_cast, Nat.reduceAdd])
  all_goals refine AOps_nil ?_
  all_goals
   refine thenK_normal (hK11 _ ?_)
   try clear hK11
   refine AW_seq_k (fun K12 hK12 => ?_)
   refine AW_region ?_
   all_goals (refine AOps_cons rfl (AOp_assign ?_) <;> try simp only [push_cast, Nat.reduceAdd])
   all_goals refine AOps_nil ?_
   all_goals
    refine thenK_normal (hK12 _ ?_)
    try clear hK12
    refine AW_seq_k (fun K13 hK13 => ?_)
    refine AW_seq_k (fun K14 hK14 => ?_)
    refine AW_region ?_
    all_goals (refine AOps_cons rfl (AOp_fieldAddr_ptr _ _ _ _ rfl fd27_2 (by decide) ?_) <;> try simp only [push_cast, Nat.reduceAdd])
    all_goals (refine AOps_cons rfl (AOp_load1_ptr _ _ _ _ _ rfl (by first | exact hget0 | exact hgetN _ rfl | assumption | exact hgetL (by assumption)) sz25 ag25 (by decide) (by simp [push_cast]) rfl ?_) <;> try simp only [push_cast, Nat.reduceAdd])
    all_goals (refine AOps_cons rfl (AOp_len_sl _ _ _ rfl sl25 ?_) <;> try simp only [push_cast, Nat.reduceAdd])
    all_goals (refine AOps_cons rfl (AOp_move ?_) <;> try simp only [push_cast, Nat.reduceAdd])
    all_goals refine AOps_nil ?_
    all_goals
     refine thenK_normal (hK14 _ ?_)
     try clear hK14
     refine AW_block ?_
     refine AW_loopR (maskG 20 [3, 3, 0, 0]) (fun (i : Nat) => [(9, .int .i64 i), (3, .int .i64 (((xs.take i).map Term.depth).foldl max 0 : Nat))]) (fun _ => _) (fun i => i ≤ xs.length ∧ ((xs.take i).map Term.depth).foldl max 0 ≤ 1099511627776) (fun i => xs.length - i) 0 ⟨Nat.zero_le _, by simp⟩ (by (simp only [push_cast, Nat.reduceAdd]; refine weak_app 1 ?_ (by simp) (by simp [push_cast]); (repeat (first | exact SlotsOk.nil | refine SlotsOk.junk ?_ | refine SlotsOk.same (by first | (simp [push_cast]; done) | (simp [push_cast, Scoped, ScopedL, *]; done)) ?_ | refine SlotsOk.tok (by first | rfl | (simp; done)) (by first | (simp [push_cast]; done) | (simp [push_cast, Scoped, ScopedL, *]; done)) ?_ | refine SlotsOk.eq (by first | rfl | (congr 1; omega) | (simp; done) | (simp; omega)) (by first | (simp [push_cast]; done) | (simp [push_cast, Scoped, ScopedL, *]; done)) ?_)))) (fun i hi => ?_)
     (try simp only [push_cast, Nat.reduceAdd])
     refine AW_seq_k (fun K15 hK15 => ?_)
     refine AW_region ?_
     all_goals (refine AOps_cons rfl (AOp_bin_int _ _ _ _ rfl rfl rfl ?_) <;> try simp only [push_cast, Nat.reduceAdd])
     all_goals refine AOps_nil ?_
     all_goals
      refine thenK_normal (hK15 _ ?_)
      try clear hK15
      refine AW_seq_k (fun K16 hK16 => ?_)
      apply AW_cond
      case' hc => exact rfl
      case' hf =>
       intro hc17
       try (exfalso; (first | (cases hc17; done) | (simp at hc17; done) | (simp at hc17; omega)); done)
       all_goals (try simp only [decide_eq_true_eq, decide_eq_false_iff_not, Bool.not_eq_true', Bool.not_eq_false', Bool.not_eq_eq_eq_not, Bool.not_true, Bool.not_false] at hc17)
       all_goals
        refine AW_exit ?_
        repeat (first | refine thenK_exit ?_ | refine loopK_exit ?_ | refine blockK_other (by decide) ?_)
        refine blockK_same ?_
        refine thenK_normal (hK13 _ ?_)
        try clear hK13
        refine AW_seq_k (fun K18 hK18 => ?_)
        refine AW_region ?_
        all_goals refine AOps_cons rfl (AOp_move ?_)
        all_goals (try simp only [push_cast, Nat.reduceAdd])
        all_goals refine AOps_cons rfl (AOp_bin_int _ _ _ _ rfl rfl rfl ?_)
        all_goals (try simp only [push_cast, Nat.reduceAdd])
        all_goals (try rw [IntWalk.i64_in _ (by omega)])
        all_goals (try simp only [push_cast, Nat.reduceAdd])
        all_goals (refine AOps_cons rfl (AOp_assign ?_) <;> try simp only [push_cast, Nat.reduceAdd])
        all_goals refine AOps_nil ?_
        all_goals
         refine thenK_normal (hK18 _ ?_)
         try clear hK18
         refine AW_ret ?_
         repeat (first | refine thenK_ret ?_ | refine loopK_ret ?_ | refine blockK_ret ?_)
         have e : xs.take i = xs := List.take_of_length_le (by omega)
         rw [e]
         refine ⟨by first | exact .inl rfl | exact .inr rfl, _, rfl, (by first | exact outok_app 0 rfl (Nat.zero_le _) (by simp) | exact outok_self), by simp [push_cast], ?_⟩
         simp only [push_cast, Nat.reduceAdd]
         (first | (simp; done) | (simp; omega) | omega)
      case' ht =>
       intro hc17
       try (exfalso; (first | (cases hc17; done) | (simp at hc17; done) | (simp at hc17; omega)); done)
       all_goals (try simp only [decide_eq_true_eq, decide_eq_false_iff_not, Bool.not_eq_true', Bool.not_eq_false', Bool.not_eq_eq_eq_not, Bool.not_true, Bool.not_false] at hc17)
       all_goals
        refine AW_skip ?_
        refine thenK_normal (hK16 _ ?_)
        try clear hK16
        refine AW_seq_k (fun K19 hK19 => ?_)
        refine AW_block ?_
        refine AW_seq_k (fun K20 hK20 => ?_)
        refine AW_region ?_
        all_goals (refine AOps_cons rfl (AOp_indexAddr_sl 27 _ _ _ _ _ rfl rfl sl25 sz27 (by decide) (by exact uni_encTs _) (by first | omega | (simp; omega)) (by first | omega | (simp [push_cast]; omega) | (simp [push_cast]; done)) ?_) <;> try simp only [push_cast, Nat.reduceAdd])
        all_goals (refine AOps_cons rfl (AOp_load_cptr _ _ rfl sz27 ag27 (by simp [push_cast]) ?_) <;> try simp only [push_cast, Nat.reduceAdd])
        all_goals (refine AOps_cons rfl (AOp_alloc _ zr27 (by simp [ofVal, AV.isCell, Value.oneCell']) ?_) <;> try simp only [push_cast, Nat.reduceAdd])
        all_goals (refine AOps_cons rfl (AOp_store _ _ _ _ _ rfl (by first | exact hget0 | exact hgetN _ rfl | assumption | exact hgetL (by assumption)) rfl rfl (by first | exact .inl rfl | exact .inr ⟨_, rfl⟩) (by simp [push_cast, AV.isCell]) sz27 (by simp [push_cast]) ?_) <;> try simp only [push_cast, Nat.reduceAdd])
        all_goals refine AOps_nil ?_
        all_goals
         refine thenK_normal (hK20 _ ?_)
         try clear hK20
         refine AW_region ?_
         all_goals refine AOps_cons rfl (AOp_move ?_)
         all_goals (try simp only [push_cast, Nat.reduceAdd])
         all_goals (refine AOps_cons rfl (AOp_load_ptr _ _ _ _ rfl (by first | exact hget0 | exact hgetN _ rfl | assumption | exact hgetL (by assumption)) sz27 ag27 (by simp [push_cast]) ?_) <;> try simp only [push_cast, Nat.reduceAdd])
         all_goals refine AOps_cons rfl (AOp_call _ _ _ rfl rfl ok85 ?_)
         all_goals (try simp only [push_cast, Nat.reduceAdd])
         all_goals have e : ((xs.take (i + 1)).map Term.depth).foldl max 0 = max (((xs.take i).map Term.depth).foldl max 0) (xs[i]'(by omega)).depth := by rw [List.take_succ_eq_append_getElem (by omega), List.map_append, List.foldl_append]; simp
         all_goals have hmem : xs[i]'(by omega) ∈ xs := by simp
         all_goals have hbx := Term.arg_le (n := n) (v := v) hmem
         all_goals have hdx := (xs[i]'(by omega)).depth_le
         all_goals have hsx := (xs[i]'(by omega)).size_le
         all_goals refine (ih (xs[i]'(by omega)) hmem (by omega) _).mono ?_
         all_goals rintro r H' ⟨rfl, rfl⟩
         all_goals (try simp only [push_cast, Nat.reduceAdd])
         all_goals (refine AOps_cons rfl (AOp_max _ _ _ rfl rfl ?_) <;> try simp only [push_cast, Nat.reduceAdd])
         all_goals (refine AOps_cons rfl (AOp_assign ?_) <;> try simp only [push_cast, Nat.reduceAdd])
         all_goals refine AOps_nil ?_
         all_goals
          refine blockK_normal ?_
          refine thenK_normal (hK19 _ ?_)
          try clear hK19
          refine AW_region ?_
          all_goals refine AOps_cons rfl (AOp_bin_int _ _ _ _ rfl rfl rfl ?_)
          all_goals (try simp only [push_cast, Nat.reduceAdd])
          all_goals (try rw [IntWalk.i64_in _ (by omega)])
          all_goals (try simp only [push_cast, Nat.reduceAdd])
          all_goals (refine AOps_cons rfl (AOp_move ?_) <;> try simp only [push_cast, Nat.reduceAdd])
          all_goals refine AOps_nil ?_
          all_goals
           refine loopK_normal ?_
           exact ⟨i + 1, ⟨by omega, by omega⟩, by (simp only [push_cast, Nat.reduceAdd]; refine weak_app 1 ?_ (by simp) (by simp [push_cast]); (repeat (first | exact SlotsOk.nil | refine SlotsOk.junk ?_ | refine SlotsOk.same (by first | (simp [push_cast]; done) | (simp [push_cast, Scoped, ScopedL, *]; done)) ?_ | refine SlotsOk.tok (by first | rfl | (simp; done)) (by first | (simp [push_cast]; done) | (simp [push_cast, Scoped, ScopedL, *]; done)) ?_ | refine SlotsOk.eq (by first | rfl | (congr 1; omega) | (simp; done) | (simp; omega)) (by first | (simp [push_cast]; done) | (simp [push_cast, Scoped, ScopedL, *]; done)) ?_))), by omega⟩
theorem indexT_ac (xs : List Term) (g : Nat) (caps : List AV) (p : Term → Bool) (H : List AObj) (hlen : xs.length < 1099511627776) (hg : callOk Try.prog g = true) (hsc : ScopedL H.length caps)
    (hf : ∀ i (h : i < xs.length) X, ACall Try.prog g (encT xs[i] :: caps) (H ++ X) (fun r H' => r = .bool (p xs[i]) ∧ H' = H ++ X)) :
    ACall Try.prog 91 [.sl .none (encTs xs), .fn g caps] H (fun r H' => ∃ n : Int, r = .int .i64 n ∧ (0 ≤ n ↔ xs.any p = true) ∧ H' = H) := by
  have hsx : ScopedL H.length (encTs xs) := scoped_encTs _ _
  refine ACall_intro (H.length) Try.func91 rfl ?_
  simp only [Try.ntmps91, List.length_cons, List.length_nil, List.replicate, List.cons_append, List.nil_append, Nat.reduceAdd, Nat.reduceSub, Nat.zero_add]
  refine AW_seq_k (fun K21 hK21 => ?_)
  refine AW_region ?_
  all_goals (refine AOps_cons rfl (AOp_assign ?_) <;> try simp only [push_cast, Nat.reduceAdd])
  all_goals refine AOps_nil ?_
  all_goals
   refine thenK_normal (hK21 _ ?_)
   try clear hK21
   refine AW_seq_k (fun K22 hK22 => ?_)
   refine AW_seq_k (fun K23 hK23 => ?_)
   refine AW_region ?_
   all_goals refine AOps_cons rfl (AOp_move ?_)
   all_goals (try simp only [push_cast, Nat.reduceAdd])
   all_goals (refine AOps_cons rfl (AOp_len_sl _ _ _ rfl sl25 ?_) <;> try simp only [push_cast, Nat.reduceAdd])
   all_goals (refine AOps_cons rfl (AOp_move ?_) <;> try simp only [push_cast, Nat.reduceAdd])
   all_goals refine AOps_nil ?_
   all_goals
    refine thenK_normal (hK23 _ ?_)
    try clear hK23
    refine AW_block ?_
    refine AW_loopR (maskG 19 [0, 0, 5, 0]) (fun (i : Nat) => [(8, .int .i64 i)]) (fun _ => _) (fun i => i ≤ xs.length ∧ (xs.take i).any p = false) (fun i => xs.length - i) 0 ⟨Nat.zero_le _, by simp⟩ (by (simp only [push_cast, Nat.reduceAdd]; (first | refine weak_app0 ?_ | refine weak_same ?_); (repeat (first | exact SlotsOk.nil | refine SlotsOk.junk ?_ | refine SlotsOk.same (by first | (simp [push_cast]; done) | (simp [push_cast, Scoped, ScopedL, *]; done)) ?_ | refine SlotsOk.tok (by first | rfl | (simp; done)) (by first | (simp [push_cast]; done) | (simp [push_cast, Scoped, ScopedL, *]; done)) ?_ | refine SlotsOk.eq (by first | rfl | (congr 1; omega) | (simp; done) | (simp; omega)) (by first | (simp [push_cast]; done) | (simp [push_cast, Scoped, ScopedL, *]; done)) ?_)))) (fun i hi => ?_)
    (try simp only [push_cast, Nat.reduceAdd])
    refine AW_seq_k (fun K24 hK24 => ?_)
    refine AW_region ?_
    all_goals (refine AOps_cons rfl (AOp_bin_int _ _ _ _ rfl rfl rfl ?_) <;> try simp only [push_cast, Nat.reduceAdd])
    all_goals refine AOps_nil ?_
    all_goals
     refine thenK_normal (hK24 _ ?_)
     try clear hK24
     refine AW_seq_k (fun K25 hK25 => ?_)
     apply AW_cond
     case' hc => exact rfl
     case' hf =>
      intro hc26
      try (exfalso; (first | (cases hc26; done) | (simp at hc26; done) | (simp at hc26; omega)); done)
      all_goals (try simp only [decide_eq_true_eq, decide_eq_false_iff_not, Bool.not_eq_true', Bool.not_eq_false', Bool.not_eq_eq_eq_not, Bool.not_true, Bool.not_false] at hc26)
      all_goals
       refine AW_exit ?_
       repeat (first | refine thenK_exit ?_ | refine loopK_exit ?_ | refine blockK_other (by decide) ?_)
       refine blockK_same ?_
       refine thenK_normal (hK22 _ ?_)
       try clear hK22
       refine AW_seq_k (fun K27 hK27 => ?_)
       refine AW_region ?_
       all_goals (refine AOps_cons rfl (AOp_assign ?_) <;> try simp only [push_cast, Nat.reduceAdd])
       all_goals refine AOps_nil ?_
       all_goals
        refine thenK_normal (hK27 _ ?_)
        try clear hK27
        refine AW_ret ?_
        repeat (first | refine thenK_ret ?_ | refine loopK_ret ?_ | refine blockK_ret ?_)
        refine ⟨by first | exact .inl rfl | exact .inr rfl, _, rfl, (by first | exact outok_app 0 rfl (Nat.zero_le _) (by simp) | exact outok_self), by simp [push_cast], ?_⟩
        simp only [push_cast, Nat.reduceAdd]
        have hs : xs.take i = xs := List.take_of_length_le (by omega)
        rw [hs] at hi
        exact ⟨-1, rfl, ⟨by omega, fun h => by rw [hi.2] at h; cases h⟩, by simp⟩
     case' ht =>
      intro hc26
      try (exfalso; (first | (cases hc26; done) | (simp at hc26; done) | (simp at hc26; omega)); done)
      all_goals (try simp only [decide_eq_true_eq, decide_eq_false_iff_not, Bool.not_eq_true', Bool.not_eq_false', Bool.not_eq_eq_eq_not, Bool.not_true, Bool.not_false] at hc26)
      all_goals
       refine AW_skip ?_
       refine thenK_normal (hK25 _ ?_)
       try clear hK25
       refine AW_seq_k (fun K28 hK28 => ?_)
       refine AW_block ?_
       refine AW_seq_k (fun K29 hK29 => ?_)
       refine AW_region ?_
       all_goals refine AOps_cons rfl (AOp_move ?_)
       all_goals (refine AOps_cons rfl (AOp_assign ?_) <;> try simp only [push_cast, Nat.reduceAdd])
       all_goals refine AOps_nil ?_
       all_goals
        refine thenK_normal (hK29 _ ?_)
        try clear hK29
        refine AW_seq_k (fun K30 hK30 => ?_)
        refine AW_region ?_
        all_goals refine AOps_cons rfl (AOp_move ?_)
        all_goals refine AOps_cons rfl (AOp_move ?_)
        all_goals refine AOps_cons rfl (AOp_move ?_)
        all_goals (try simp only [push_cast, Nat.reduceAdd])
        all_goals (refine AOps_cons rfl (AOp_indexAddr_sl 27 _ _ _ _ _ rfl rfl sl25 sz27 (by decide) (by exact uni_encTs _) (by first | omega | (simp; omega)) (by first | omega | (simp [push_cast]; omega) | (simp [push_cast]; done)) ?_) <;> try simp only [push_cast, Nat.reduceAdd])
        all_goals (refine AOps_cons rfl (AOp_load_cptr _ _ rfl sz27 ag27 (by simp [push_cast]) ?_) <;> try simp only [push_cast, Nat.reduceAdd])
        all_goals refine AOps_cons rfl (AOp_call _ _ _ rfl rfl hg ?_)
        all_goals have hfi := hf i (by omega) []
        all_goals simp only [List.append_nil] at hfi
        all_goals simp only [push_cast]
        all_goals refine hfi.mono ?_
        all_goals rintro r H' ⟨rfl, rfl⟩
        all_goals (try simp only [push_cast, Nat.reduceAdd])
        all_goals refine AOps_nil ?_
        all_goals
         refine thenK_normal (hK30 _ ?_)
         try clear hK30
         apply AW_cond
         case' hc => exact rfl
         case' hf =>
          intro hc31
          try (exfalso; (first | (cases hc31; done) | (simp at hc31; done) | (simp at hc31; omega)); done)
          all_goals (try simp only [decide_eq_true_eq, decide_eq_false_iff_not, Bool.not_eq_true', Bool.not_eq_false', Bool.not_eq_eq_eq_not, Bool.not_true, Bool.not_false] at hc31)
          all_goals
           refine AW_skip ?_
           refine blockK_normal ?_
           refine thenK_normal (hK28 _ ?_)
           try clear hK28
           refine AW_region ?_
           all_goals refine AOps_cons rfl (AOp_bin_int _ _ _ _ rfl rfl rfl ?_)
           all_goals (try simp only [push_cast, Nat.reduceAdd])
           all_goals (try rw [IntWalk.i64_in _ (by omega)])
           all_goals (try simp only [push_cast, Nat.reduceAdd])
           all_goals (refine AOps_cons rfl (AOp_move ?_) <;> try simp only [push_cast, Nat.reduceAdd])
           all_goals refine AOps_nil ?_
           all_goals
            refine loopK_normal ?_
            exact ⟨i + 1, ⟨by omega, any_take_false hi.2 (by omega) (by assumption)⟩, by (simp only [push_cast, Nat.reduceAdd]; (first | refine weak_app0 ?_ | refine weak_same ?_); (repeat (first | exact SlotsOk.nil | refine SlotsOk.junk ?_ | refine SlotsOk.same (by first | (simp [push_cast]; done) | (simp [push_cast, Scoped, ScopedL, *]; done)) ?_ | refine SlotsOk.tok (by first | rfl | (simp; done)) (by first | (simp [push_cast]; done) | (simp [push_cast, Scoped, ScopedL, *]; done)) ?_ | refine SlotsOk.eq (by first | rfl | (congr 1; omega) | (simp; done) | (simp; omega)) (by first | (simp [push_cast]; done) | (simp [push_cast, Scoped, ScopedL, *]; done)) ?_))), by omega⟩
         case' ht =>
          intro hc31
          try (exfalso; (first | (cases hc31; done) | (simp at hc31; done) | (simp at hc31; omega)); done)
          all_goals (try simp only [decide_eq_true_eq, decide_eq_false_iff_not, Bool.not_eq_true', Bool.not_eq_false', Bool.not_eq_eq_eq_not, Bool.not_true, Bool.not_false] at hc31)
          all_goals
           refine AW_seq_k (fun K32 hK32 => ?_)
           refine AW_region ?_
           all_goals refine AOps_cons rfl (AOp_move ?_)
           all_goals (refine AOps_cons rfl (AOp_assign ?_) <;> try simp only [push_cast, Nat.reduceAdd])
           all_goals refine AOps_nil ?_
           all_goals
            refine thenK_normal (hK32 _ ?_)
            try clear hK32
            refine AW_ret ?_
            repeat (first | refine thenK_ret ?_ | refine loopK_ret ?_ | refine blockK_ret ?_)
            refine ⟨by first | exact .inl rfl | exact .inr rfl, _, rfl, (by first | exact outok_app 0 rfl (Nat.zero_le _) (by simp) | exact outok_self), by simp [push_cast], ?_⟩
            simp only [push_cast, Nat.reduceAdd]
            exact ⟨i, rfl, ⟨fun _ => any_get (xs := xs) (i := i) (by omega) (by assumption), fun _ => by omega⟩, by simp⟩
theorem containsT_ac (xs : List Term) (g : Nat) (caps : List AV) (p : Term → Bool) (H : List AObj) (hlen : xs.length < 1099511627776) (hg : callOk Try.prog g = true) (hsc : ScopedL H.length caps)
    (hf : ∀ i (h : i < xs.length) X, ACall Try.prog g (encT xs[i] :: caps) (H ++ X) (fun r H' => r = .bool (p xs[i]) ∧ H' = H ++ X)) :
    ACall Try.prog 82 [.sl .none (encTs xs), .fn g caps] H (fun r H' => r = .bool (xs.any p) ∧ H' = H) := by
  refine ACall_intro (H.length) Try.func82 rfl ?_
  simp only [Try.ntmps82, List.length_cons, List.length_nil, List.replicate, List.cons_append, List.nil_append, Nat.reduceAdd, Nat.reduceSub, Nat.zero_add]
  refine AW_seq_k (fun K33 hK33 => ?_)
  refine AW_region ?_
  all_goals (refine AOps_cons rfl (AOp_assign ?_) <;> try simp only [push_cast, Nat.reduceAdd])
  all_goals refine AOps_nil ?_
  all_goals
   refine thenK_normal (hK33 _ ?_)
   try clear hK33
   refine AW_seq_k (fun K34 hK34 => ?_)
   refine AW_region ?_
   all_goals refine AOps_cons rfl (AOp_move ?_)
   all_goals refine AOps_cons rfl (AOp_move ?_)
   all_goals (try simp only [push_cast, Nat.reduceAdd])
   all_goals refine AOps_cons rfl (AOp_call _ _ _ rfl rfl ok91 ?_)
   all_goals (try simp only [push_cast, Nat.reduceAdd])
   all_goals refine (indexT_ac xs g caps p _ hlen hg hsc hf).mono ?_
   all_goals rintro r H' ⟨n, rfl, hn, rfl⟩
   all_goals (try simp only [push_cast, Nat.reduceAdd])
   all_goals (refine AOps_cons rfl (AOp_bin_int _ _ _ _ rfl rfl rfl ?_) <;> try simp only [push_cast, Nat.reduceAdd])
   all_goals (refine AOps_cons rfl (AOp_assign ?_) <;> try simp only [push_cast, Nat.reduceAdd])
   all_goals refine AOps_nil ?_
   all_goals
    refine thenK_normal (hK34 _ ?_)
    try clear hK34
    refine AW_ret ?_
    repeat (first | refine thenK_ret ?_ | refine loopK_ret ?_ | refine blockK_ret ?_)
    refine ⟨by first | exact .inl rfl | exact .inr rfl, _, rfl, (by first | exact outok_app 0 rfl (Nat.zero_le _) (by simp) | exact outok_self), by simp [push_cast], ?_⟩
    simp only [push_cast, Nat.reduceAdd]
    simp only [hn, and_true]; cases xs.any p <;> simp
theorem formed_ac (t : Term) : t.bulk ≤ 1099511627775 → ∀ H, ACall Try.prog 66 [encT t] H (fun r H' => r = .bool (formedP t) ∧ H' = H) := by
  refine Term.ind (p := fun t => t.bulk ≤ 1099511627775 → ∀ H, ACall Try.prog 66 [encT t] H (fun r H' => r = .bool (formedP t) ∧ H' = H)) (fun n v xs ih => ?_) t
  intro hb H
  have hlen := Term.len_le (n := n) (v := v) (xs := xs)
  have hnl := Term.name_le (n := n) (v := v) (xs := xs)
  have hcl : ∀ i (h : i < xs.length) X, ACall Try.prog 83 [encT xs[i]] (H ++ X) (fun r H' => r = .bool (!formedP xs[i]) ∧ H' = H ++ X) := by
    intro i h X
    have hmem : xs[i] ∈ xs := by simp
    have hbx := Term.arg_le (n := n) (v := v) hmem
    generalize xs[i] = x at *
    generalize H ++ X = H at *
    refine ACall_intro (H.length) Try.func83 rfl ?_
    simp only [Try.ntmps83, List.length_cons, List.length_nil, List.replicate, List.cons_append, List.nil_append, Nat.reduceAdd, Nat.reduceSub, Nat.zero_add]
    refine AW_seq_k (fun K35 hK35 => ?_)
    refine AW_region ?_
    all_goals (refine AOps_cons rfl (AOp_box _ _ rfl rfl (by first | exact .inl rfl | exact .inr ⟨_, rfl⟩) (by simp [push_cast, AV.isCell]) ?_) <;> try simp only [push_cast, Nat.reduceAdd])
    all_goals (refine AOps_cons rfl (AOp_assign ?_) <;> try simp only [push_cast, Nat.reduceAdd])
    all_goals refine AOps_nil ?_
    all_goals
     refine thenK_normal (hK35 _ ?_)
     try clear hK35
     refine AW_seq_k (fun K36 hK36 => ?_)
     refine AW_region ?_
     all_goals (refine AOps_cons rfl (AOp_load_ptr _ _ _ _ rfl (by first | exact hget0 | exact hgetN _ rfl | assumption | exact hgetL (by assumption)) sz27 ag27 (by simp [push_cast]) ?_) <;> try simp only [push_cast, Nat.reduceAdd])
     all_goals refine AOps_cons rfl (AOp_call _ _ _ rfl rfl ok66 ?_)
     all_goals (try simp only [push_cast, Nat.reduceAdd])
     all_goals refine (ih x hmem (by omega) _).mono ?_
     all_goals rintro r H' ⟨rfl, rfl⟩
     all_goals (try simp only [push_cast, Nat.reduceAdd])
     all_goals (refine AOps_cons rfl (AOp_not _ rfl ?_) <;> try simp only [push_cast, Nat.reduceAdd])
     all_goals (refine AOps_cons rfl (AOp_assign ?_) <;> try simp only [push_cast, Nat.reduceAdd])
     all_goals refine AOps_nil ?_
     all_goals
      refine thenK_normal (hK36 _ ?_)
      try clear hK36
      refine AW_ret ?_
      repeat (first | refine thenK_ret ?_ | refine loopK_ret ?_ | refine blockK_ret ?_)
      refine ⟨by first | exact .inl rfl | exact .inr rfl, _, rfl, (by first | exact outok_app 0 rfl (Nat.zero_le _) (by simp) | exact outok_self), by simp [push_cast], ?_⟩
      simp only [push_cast, Nat.reduceAdd]
      (first | (simp; done) | (simp; omega) | omega)
  rw [formedP_mk]
  simp only [encT, Term.name, Term.var, Term.args]
  refine ACall_intro (H.length) Try.func66 rfl ?_
  simp only [Try.ntmps66, List.length_cons, List.length_nil, List.replicate, List.cons_append, List.nil_append, Nat.reduceAdd, Nat.reduceSub, Nat.zero_add]
  refine AW_seq_k (fun K37 hK37 => ?_)
  refine AW_region ?_
  all_goals (refine AOps_cons rfl (AOp_box _ _ rfl rfl (by first | exact .inl rfl | exact .inr ⟨_, rfl⟩) (by simp [push_cast, AV.isCell]) ?_) <;> try simp only [push_cast, Nat.reduceAdd])
  all_goals (refine AOps_cons rfl (AOp_assign ?_) <;> try simp only [push_cast, Nat.reduceAdd])
  all_goals refine AOps_nil ?_
  all_goals
   refine thenK_normal (hK37 _ ?_)
   try clear hK37
   refine AW_seq_k (fun K38 hK38 => ?_)
   refine AW_seq_k (fun K39 hK39 => ?_)
   refine AW_region ?_
   all_goals (refine AOps_cons rfl (AOp_fieldAddr_ptr _ _ _ _ rfl fd27_1 (by decide) ?_) <;> try simp only [push_cast, Nat.reduceAdd])
   all_goals (refine AOps_cons rfl (AOp_load1_ptr _ _ _ _ _ rfl (by first | exact hget0 | exact hgetN _ rfl | assumption | exact hgetL (by assumption)) sz4 ag4 (by decide) (by simp [push_cast]) rfl ?_) <;> try simp only [push_cast, Nat.reduceAdd])
   all_goals refine AOps_nil ?_
   all_goals
    refine thenK_normal (hK39 _ ?_)
    try clear hK39
    apply AW_cond
    case' hc => exact rfl
    case' hf =>
     intro hc40
     try (exfalso; (first | (cases hc40; done) | (simp at hc40; done) | (simp at hc40; omega)); done)
     all_goals (try simp only [decide_eq_true_eq, decide_eq_false_iff_not, Bool.not_eq_true', Bool.not_eq_false', Bool.not_eq_eq_eq_not, Bool.not_true, Bool.not_false] at hc40)
     all_goals
      refine AW_skip ?_
      refine thenK_normal (hK38 _ ?_)
      try clear hK38
      refine AW_seq_k (fun K41 hK41 => ?_)
      refine AW_region ?_
      all_goals (refine AOps_cons rfl (AOp_fieldAddr_ptr _ _ _ _ rfl fd27_2 (by decide) ?_) <;> try simp only [push_cast, Nat.reduceAdd])
      all_goals (refine AOps_cons rfl (AOp_load1_ptr _ _ _ _ _ rfl (by first | exact hget0 | exact hgetN _ rfl | assumption | exact hgetL (by assumption)) sz25 ag25 (by decide) (by simp [push_cast]) rfl ?_) <;> try simp only [push_cast, Nat.reduceAdd])
      all_goals (refine AOps_cons rfl (AOp_len_sl _ _ _ rfl sl25 ?_) <;> try simp only [push_cast, Nat.reduceAdd])
      all_goals (refine AOps_cons rfl (AOp_bin_int _ _ _ _ rfl rfl rfl ?_) <;> try simp only [push_cast, Nat.reduceAdd])
      all_goals refine AOps_cons rfl (AOp_move ?_)
      all_goals (try simp only [push_cast, Nat.reduceAdd])
      all_goals (try refine AOps_split 18 _ rfl (fun hg42 => ?_) (fun hg42 => ?_))
      all_goals (try (exfalso; (first | (cases hg42; done) | (simp at hg42; done) | (simp at hg42; omega)); done))
      all_goals (try simp only [decide_eq_true_eq, decide_eq_false_iff_not, Bool.not_eq_true', Bool.not_eq_false', Bool.not_eq_eq_eq_not, Bool.not_true, Bool.not_false] at hg42)
      all_goals first
       | refine AOps_skip rfl ?_
       | (refine AOps_cons rfl ?_
          refine AOp_fieldAddr_ptr _ _ _ _ rfl fd27_0 (by decide) ?_)
      all_goals (try simp only [push_cast, Nat.reduceAdd])
      all_goals first
       | refine AOps_skip rfl ?_
       | (refine AOps_cons rfl ?_
          refine AOp_load1_ptr _ _ _ _ _ rfl (by first | exact hget0 | exact hgetN _ rfl | assumption | exact hgetL (by assumption)) sz9 ag9 (by decide) (by simp [push_cast]) rfl ?_)
      all_goals (try simp only [push_cast, Nat.reduceAdd])
      all_goals first
       | refine AOps_skip rfl ?_
       | (refine AOps_cons rfl ?_
          refine AOp_call _ _ _ rfl rfl ok64 ?_
          (try simp only [push_cast, Nat.reduceAdd])
          refine (isName_ac n _ _ (by omega)).mono ?_
          rintro r H' ⟨rfl, rfl⟩)
      all_goals (try simp only [push_cast, Nat.reduceAdd])
      all_goals refine AOps_cons rfl (AOp_pick _ rfl ?_)
      all_goals refine AOps_cons rfl (AOp_move ?_)
      all_goals (try simp only [push_cast, Nat.reduceAdd])
      all_goals (try refine AOps_split 23 _ rfl (fun hg43 => ?_) (fun hg43 => ?_))
      all_goals (try (exfalso; (first | (cases hg43; done) | (simp at hg43; done) | (simp at hg43; omega)); done))
      all_goals (try simp only [decide_eq_true_eq, decide_eq_false_iff_not, Bool.not_eq_true', Bool.not_eq_false', Bool.not_eq_eq_eq_not, Bool.not_true, Bool.not_false] at hg43)
      all_goals first
       | refine AOps_skip rfl ?_
       | (refine AOps_cons rfl ?_
          refine AOp_fieldAddr_ptr _ _ _ _ rfl fd27_2 (by decide) ?_)
      all_goals (try simp only [push_cast, Nat.reduceAdd])
      all_goals first
       | refine AOps_skip rfl ?_
       | (refine AOps_cons rfl ?_
          refine AOp_load1_ptr _ _ _ _ _ rfl (by first | exact hget0 | exact hgetN _ rfl | assumption | exact hgetL (by assumption)) sz25 ag25 (by decide) (by simp [push_cast]) rfl ?_)
      all_goals (try simp only [push_cast, Nat.reduceAdd])
      all_goals first
       | refine AOps_skip rfl ?_
       | (refine AOps_cons rfl ?_
          refine AOp_call _ _ _ rfl rfl ok82 ?_
          (try simp only [push_cast, Nat.reduceAdd])
          refine (containsT_ac xs 83 [] (fun x => !formedP x) _ (by omega) ok83 (by simp [ScopedL]) (fun i h X => by rw [List.append_assoc]; exact hcl i h _)).mono ?_
          rintro r H' ⟨rfl, rfl⟩)
      all_goals (try simp only [push_cast, Nat.reduceAdd])
      all_goals first
       | refine AOps_skip rfl ?_
       | (refine AOps_cons rfl ?_
          refine AOp_not _ rfl ?_)
      all_goals (try simp only [push_cast, Nat.reduceAdd])
      all_goals refine AOps_cons rfl (AOp_pick _ rfl ?_)
      all_goals (refine AOps_cons rfl (AOp_assign ?_) <;> try simp only [push_cast, Nat.reduceAdd])
      all_goals refine AOps_nil ?_
      all_goals
       refine thenK_normal (hK41 _ ?_)
       try clear hK41
       refine AW_ret ?_
       repeat (first | refine thenK_ret ?_ | refine loopK_ret ?_ | refine blockK_ret ?_)
       refine ⟨by first | exact .inl rfl | exact .inr rfl, _, rfl, (by first | exact outok_app 0 rfl (Nat.zero_le _) (by simp) | exact outok_self), by simp [push_cast], ?_⟩
       simp only [push_cast, Nat.reduceAdd]
       first
         | (have h0 : xs.length = 0 := (by omega); have hv : v = true := (by assumption); have h1 : xs = [] := List.eq_nil_of_length_eq_zero h0; subst h1; simp [hv]; done)
         | (have h0 : ¬ xs.length = 0 := (by omega); have hv : v = true := (by assumption); rw [hv]; simp only [h0, if_true, decide_false, Bool.false_and, and_self]; done)
         | (have h8 : xs.length ≤ 8 := (by omega); have hv : v = false := (by assumption); have hn : isNameP n true = true := (by assumption); simp [hv, h8, hn, List.not_any_eq_all_not]; done)
         | (have h8 : xs.length ≤ 8 := (by omega); have hv : v = false := (by assumption); have hn : isNameP n true = false := (by assumption); simp [hv, h8, hn]; done)
         | (have h8 : ¬ xs.length ≤ 8 := (by omega); have hv : v = false := (by assumption); simp [hv, h8]; done)
         | trace_state
    case' ht =>
     intro hc40
     try (exfalso; (first | (cases hc40; done) | (simp at hc40; done) | (simp at hc40; omega)); done)
     all_goals (try simp only [decide_eq_true_eq, decide_eq_false_iff_not, Bool.not_eq_true', Bool.not_eq_false', Bool.not_eq_eq_eq_not, Bool.not_true, Bool.not_false] at hc40)
     all_goals
      refine AW_seq_k (fun K44 hK44 => ?_)
      refine AW_region ?_
      all_goals (refine AOps_cons rfl (AOp_fieldAddr_ptr _ _ _ _ rfl fd27_2 (by decide) ?_) <;> try simp only [push_cast, Nat.reduceAdd])
      all_goals (refine AOps_cons rfl (AOp_load1_ptr _ _ _ _ _ rfl (by first | exact hget0 | exact hgetN _ rfl | assumption | exact hgetL (by assumption)) sz25 ag25 (by decide) (by simp [push_cast]) rfl ?_) <;> try simp only [push_cast, Nat.reduceAdd])
      all_goals (refine AOps_cons rfl (AOp_len_sl _ _ _ rfl sl25 ?_) <;> try simp only [push_cast, Nat.reduceAdd])
      all_goals (refine AOps_cons rfl (AOp_bin_int _ _ _ _ rfl rfl rfl ?_) <;> try simp only [push_cast, Nat.reduceAdd])
      all_goals refine AOps_cons rfl (AOp_move ?_)
      all_goals (try simp only [push_cast, Nat.reduceAdd])
      all_goals (try refine AOps_split 9 _ rfl (fun hg45 => ?_) (fun hg45 => ?_))
      all_goals (try (exfalso; (first | (cases hg45; done) | (simp at hg45; done) | (simp at hg45; omega)); done))
      all_goals (try simp only [decide_eq_true_eq, decide_eq_false_iff_not, Bool.not_eq_true', Bool.not_eq_false', Bool.not_eq_eq_eq_not, Bool.not_true, Bool.not_false] at hg45)
      all_goals first
       | refine AOps_skip rfl ?_
       | (refine AOps_cons rfl ?_
          refine AOp_fieldAddr_ptr _ _ _ _ rfl fd27_0 (by decide) ?_)
      all_goals (try simp only [push_cast, Nat.reduceAdd])
      all_goals first
       | refine AOps_skip rfl ?_
       | (refine AOps_cons rfl ?_
          refine AOp_load1_ptr _ _ _ _ _ rfl (by first | exact hget0 | exact hgetN _ rfl | assumption | exact hgetL (by assumption)) sz9 ag9 (by decide) (by simp [push_cast]) rfl ?_)
      all_goals (try simp only [push_cast, Nat.reduceAdd])
      all_goals first
       | refine AOps_skip rfl ?_
       | (refine AOps_cons rfl ?_
          refine AOp_call _ _ _ rfl rfl ok64 ?_
          (try simp only [push_cast, Nat.reduceAdd])
          refine (isName_ac n _ _ (by omega)).mono ?_
          rintro r H' ⟨rfl, rfl⟩)
      all_goals (try simp only [push_cast, Nat.reduceAdd])
      all_goals refine AOps_cons rfl (AOp_pick _ rfl ?_)
      all_goals (refine AOps_cons rfl (AOp_assign ?_) <;> try simp only [push_cast, Nat.reduceAdd])
      all_goals refine AOps_nil ?_
      all_goals
       refine thenK_normal (hK44 _ ?_)
       try clear hK44
       refine AW_ret ?_
       repeat (first | refine thenK_ret ?_ | refine loopK_ret ?_ | refine blockK_ret ?_)
       refine ⟨by first | exact .inl rfl | exact .inr rfl, _, rfl, (by first | exact outok_app 0 rfl (Nat.zero_le _) (by simp) | exact outok_self), by simp [push_cast], ?_⟩
       simp only [push_cast, Nat.reduceAdd]
       first
         | (have h0 : xs.length = 0 := (by omega); have hv : v = true := (by assumption); have h1 : xs = [] := List.eq_nil_of_length_eq_zero h0; subst h1; simp [hv]; done)
         | (have h0 : ¬ xs.length = 0 := (by omega); have hv : v = true := (by assumption); rw [hv]; simp only [h0, if_true, decide_false, Bool.false_and, and_self]; done)
         | (have h8 : xs.length ≤ 8 := (by omega); have hv : v = false := (by assumption); have hn : isNameP n true = true := (by assumption); simp [hv, h8, hn, List.not_any_eq_all_not]; done)
         | (have h8 : xs.length ≤ 8 := (by omega); have hv : v = false := (by assumption); have hn : isNameP n true = false := (by assumption); simp [hv, h8, hn]; done)
         | (have h8 : ¬ xs.length ≤ 8 := (by omega); have hv : v = false := (by assumption); simp [hv, h8]; done)
         | trace_state
theorem fits_ac (t : Term) (hb : t.bulk ≤ 1099511627775) (H : List AObj) : ACall Try.prog 67 [encT t] H (fun r H' => r = .bool (fitsP t) ∧ H' = H) := by
  refine ACall_intro (H.length) Try.func67 rfl ?_
  simp only [Try.ntmps67, List.length_cons, List.length_nil, List.replicate, List.cons_append, List.nil_append, Nat.reduceAdd, Nat.reduceSub, Nat.zero_add]
  refine AW_seq_k (fun K46 hK46 => ?_)
  refine AW_region ?_
  all_goals (refine AOps_cons rfl (AOp_box _ _ rfl rfl (by first | exact .inl rfl | exact .inr ⟨_, rfl⟩) (by simp [push_cast, AV.isCell]) ?_) <;> try simp only [push_cast, Nat.reduceAdd])
  all_goals (refine AOps_cons rfl (AOp_assign ?_) <;> try simp only [push_cast, Nat.reduceAdd])
  all_goals refine AOps_nil ?_
  all_goals
   refine thenK_normal (hK46 _ ?_)
   try clear hK46
   refine AW_seq_k (fun K47 hK47 => ?_)
   refine AW_region ?_
   all_goals (refine AOps_cons rfl (AOp_load_ptr _ _ _ _ rfl (by first | exact hget0 | exact hgetN _ rfl | assumption | exact hgetL (by assumption)) sz27 ag27 (by simp [push_cast]) ?_) <;> try simp only [push_cast, Nat.reduceAdd])
   all_goals refine AOps_cons rfl (AOp_call _ _ _ rfl rfl ok84 ?_)
   all_goals (try simp only [push_cast, Nat.reduceAdd])
   all_goals refine (size_ac t (by omega) _).mono ?_
   all_goals rintro r H' ⟨rfl, rfl⟩
   all_goals (try simp only [push_cast, Nat.reduceAdd])
   all_goals (refine AOps_cons rfl (AOp_bin_int _ _ _ _ rfl rfl rfl ?_) <;> try simp only [push_cast, Nat.reduceAdd])
   all_goals refine AOps_cons rfl (AOp_move ?_)
   all_goals (try simp only [push_cast, Nat.reduceAdd])
   all_goals (try refine AOps_split 6 _ rfl (fun hg48 => ?_) (fun hg48 => ?_))
   all_goals (try (exfalso; (first | (cases hg48; done) | (simp at hg48; done) | (simp at hg48; omega)); done))
   all_goals (try simp only [decide_eq_true_eq, decide_eq_false_iff_not, Bool.not_eq_true', Bool.not_eq_false', Bool.not_eq_eq_eq_not, Bool.not_true, Bool.not_false] at hg48)
   all_goals first
    | refine AOps_skip rfl ?_
    | (refine AOps_cons rfl ?_
       refine AOp_load_ptr _ _ _ _ rfl (by first | exact hget0 | exact hgetN _ rfl | assumption | exact hgetL (by assumption)) sz27 ag27 (by simp [push_cast]) ?_)
   all_goals (try simp only [push_cast, Nat.reduceAdd])
   all_goals first
    | refine AOps_skip rfl ?_
    | (refine AOps_cons rfl ?_
       refine AOp_call _ _ _ rfl rfl ok85 ?_
       (try simp only [push_cast, Nat.reduceAdd])
       refine (depth_ac t (by omega) _).mono ?_
       rintro r H' ⟨rfl, rfl⟩)
   all_goals (try simp only [push_cast, Nat.reduceAdd])
   all_goals first
    | refine AOps_skip rfl ?_
    | (refine AOps_cons rfl ?_
       refine AOp_bin_int _ _ _ _ rfl rfl rfl ?_)
   all_goals (try simp only [push_cast, Nat.reduceAdd])
   all_goals refine AOps_cons rfl (AOp_pick _ rfl ?_)
   all_goals (refine AOps_cons rfl (AOp_assign ?_) <;> try simp only [push_cast, Nat.reduceAdd])
   all_goals refine AOps_nil ?_
   all_goals
    refine thenK_normal (hK47 _ ?_)
    try clear hK47
    refine AW_ret ?_
    repeat (first | refine thenK_ret ?_ | refine loopK_ret ?_ | refine blockK_ret ?_)
    refine ⟨by first | exact .inl rfl | exact .inr rfl, _, rfl, (by first | exact outok_app 0 rfl (Nat.zero_le _) (by simp) | exact outok_self), by simp [push_cast], ?_⟩
    simp only [push_cast, Nat.reduceAdd]
    unfold fitsP
    (first | (have h4 : t.size ≤ 4000 := (by omega); simp [h4]; omega) | (have h4 : ¬ t.size ≤ 4000 := (by omega); simp [h4]; done) | trace_state)
theorem check_ac (t : Term) (hb : t.bulk ≤ 1099511627775) (H : List AObj) : ACall Try.prog 44 [encT t] H (fun r H' => r = .int .i64 (checkP t) ∧ H' = H) := by
  refine ACall_intro (H.length) Try.func44 rfl ?_
  simp only [Try.ntmps44, List.length_cons, List.length_nil, List.replicate, List.cons_append, List.nil_append, Nat.reduceAdd, Nat.reduceSub, Nat.zero_add]
  refine AW_seq_k (fun K49 hK49 => ?_)
  refine AW_region ?_
  all_goals (refine AOps_cons rfl (AOp_box _ _ rfl rfl (by first | exact .inl rfl | exact .inr ⟨_, rfl⟩) (by simp [push_cast, AV.isCell]) ?_) <;> try simp only [push_cast, Nat.reduceAdd])
  all_goals (refine AOps_cons rfl (AOp_assign ?_) <;> try simp only [push_cast, Nat.reduceAdd])
  all_goals refine AOps_nil ?_
  all_goals
   refine thenK_normal (hK49 _ ?_)
   try clear hK49
   refine AW_seq_k (fun K50 hK50 => ?_)
   refine AW_block ?_
   refine AW_seq_k (fun K51 hK51 => ?_)
   refine AW_region ?_
   all_goals (refine AOps_cons rfl (AOp_load_ptr _ _ _ _ rfl (by first | exact hget0 | exact hgetN _ rfl | assumption | exact hgetL (by assumption)) sz27 ag27 (by simp [push_cast]) ?_) <;> try simp only [push_cast, Nat.reduceAdd])
   all_goals refine AOps_cons rfl (AOp_call _ _ _ rfl rfl ok66 ?_)
   all_goals (try simp only [push_cast, Nat.reduceAdd])
   all_goals refine (formed_ac t (by omega) _).mono ?_
   all_goals rintro r H' ⟨rfl, rfl⟩
   all_goals (try simp only [push_cast, Nat.reduceAdd])
   all_goals (refine AOps_cons rfl (AOp_not _ rfl ?_) <;> try simp only [push_cast, Nat.reduceAdd])
   all_goals (refine AOps_cons rfl (AOp_assign ?_) <;> try simp only [push_cast, Nat.reduceAdd])
   all_goals refine AOps_nil ?_
   all_goals
    refine thenK_normal (hK51 _ ?_)
    try clear hK51
    apply AW_cond
    case' hc => exact rfl
    case' hf =>
     intro hc52
     try (exfalso; (first | (cases hc52; done) | (simp at hc52; done) | (simp at hc52; omega)); done)
     all_goals (try simp only [decide_eq_true_eq, decide_eq_false_iff_not, Bool.not_eq_true', Bool.not_eq_false', Bool.not_eq_eq_eq_not, Bool.not_true, Bool.not_false] at hc52)
     all_goals
      refine AW_seq_k (fun K53 hK53 => ?_)
      refine AW_region ?_
      all_goals (refine AOps_cons rfl (AOp_load_ptr _ _ _ _ rfl (by first | exact hget0 | exact hgetN _ rfl | assumption | exact hgetL (by assumption)) sz27 ag27 (by simp [push_cast]) ?_) <;> try simp only [push_cast, Nat.reduceAdd])
      all_goals refine AOps_cons rfl (AOp_call _ _ _ rfl rfl ok67 ?_)
      all_goals (try simp only [push_cast, Nat.reduceAdd])
      all_goals refine (fits_ac t (by omega) _).mono ?_
      all_goals rintro r H' ⟨rfl, rfl⟩
      all_goals (try simp only [push_cast, Nat.reduceAdd])
      all_goals (refine AOps_cons rfl (AOp_not _ rfl ?_) <;> try simp only [push_cast, Nat.reduceAdd])
      all_goals (refine AOps_cons rfl (AOp_assign ?_) <;> try simp only [push_cast, Nat.reduceAdd])
      all_goals refine AOps_nil ?_
      all_goals
       refine thenK_normal (hK53 _ ?_)
       try clear hK53
       apply AW_cond
       case' hc => exact rfl
       case' hf =>
        intro hc54
        try (exfalso; (first | (cases hc54; done) | (simp at hc54; done) | (simp at hc54; omega)); done)
        all_goals (try simp only [decide_eq_true_eq, decide_eq_false_iff_not, Bool.not_eq_true', Bool.not_eq_false', Bool.not_eq_eq_eq_not, Bool.not_true, Bool.not_false] at hc54)
        all_goals
         refine AW_skip ?_
         refine blockK_normal ?_
         refine thenK_normal (hK50 _ ?_)
         try clear hK50
         refine AW_seq_k (fun K55 hK55 => ?_)
         refine AW_region ?_
         all_goals (refine AOps_cons rfl (AOp_assign ?_) <;> try simp only [push_cast, Nat.reduceAdd])
         all_goals refine AOps_nil ?_
         all_goals
          refine thenK_normal (hK55 _ ?_)
          try clear hK55
          refine AW_ret ?_
          repeat (first | refine thenK_ret ?_ | refine loopK_ret ?_ | refine blockK_ret ?_)
          refine ⟨by first | exact .inl rfl | exact .inr rfl, _, rfl, (by first | exact outok_app 0 rfl (Nat.zero_le _) (by simp) | exact outok_self), by simp [push_cast], ?_⟩
          simp only [push_cast, Nat.reduceAdd]
          unfold checkP; (first | (simp [*]; done) | (simp_all; done) | trace_state)
       case' ht =>
        intro hc54
        try (exfalso; (first | (cases hc54; done) | (simp at hc54; done) | (simp at hc54; omega)); done)
        all_goals (try simp only [decide_eq_true_eq, decide_eq_false_iff_not, Bool.not_eq_true', Bool.not_eq_false', Bool.not_eq_eq_eq_not, Bool.not_true, Bool.not_false] at hc54)
        all_goals
         refine AW_seq_k (fun K56 hK56 => ?_)
         refine AW_region ?_
         all_goals (refine AOps_cons rfl (AOp_assign ?_) <;> try simp only [push_cast, Nat.reduceAdd])
         all_goals refine AOps_nil ?_
         all_goals
          refine thenK_normal (hK56 _ ?_)
          try clear hK56
          refine AW_ret ?_
          repeat (first | refine thenK_ret ?_ | refine loopK_ret ?_ | refine blockK_ret ?_)
          refine ⟨by first | exact .inl rfl | exact .inr rfl, _, rfl, (by first | exact outok_app 0 rfl (Nat.zero_le _) (by simp) | exact outok_self), by simp [push_cast], ?_⟩
          simp only [push_cast, Nat.reduceAdd]
          unfold checkP; (first | (simp [*]; done) | (simp_all; done) | trace_state)
    case' ht =>
     intro hc52
     try (exfalso; (first | (cases hc52; done) | (simp at hc52; done) | (simp at hc52; omega)); done)
     all_goals (try simp only [decide_eq_true_eq, decide_eq_false_iff_not, Bool.not_eq_true', Bool.not_eq_false', Bool.not_eq_eq_eq_not, Bool.not_true, Bool.not_false] at hc52)
     all_goals
      refine AW_seq_k (fun K57 hK57 => ?_)
      refine AW_region ?_
      all_goals (refine AOps_cons rfl (AOp_assign ?_) <;> try simp only [push_cast, Nat.reduceAdd])
      all_goals refine AOps_nil ?_
      all_goals
       refine thenK_normal (hK57 _ ?_)
       try clear hK57
       refine AW_ret ?_
       repeat (first | refine thenK_ret ?_ | refine loopK_ret ?_ | refine blockK_ret ?_)
       refine ⟨by first | exact .inl rfl | exact .inr rfl, _, rfl, (by first | exact outok_app 0 rfl (Nat.zero_le _) (by simp) | exact outok_self), by simp [push_cast], ?_⟩
       simp only [push_cast, Nat.reduceAdd]
       unfold checkP; (first | (simp [*]; done) | (simp_all; done) | trace_state)
end Ab
set_option maxRecDepth 10000
namespace Ab
open Go Go.Proofs
attribute [local push_cast] encT
theorem eqFuncT_ac (xs ys : List Term) (g : Nat) (caps : List AV) (p : Term → Term → Bool) (H : List AObj) (hlen : xs.length < 1099511627776) (hlen2 : ys.length < 1099511627776) (hg : callOk Try.prog g = true) (hsc : ScopedL H.length caps)
    (hf : ∀ i (h : i < xs.length) (h' : i < ys.length) X, ACall Try.prog g (encT xs[i] :: encT ys[i] :: caps) (H ++ X) (fun r H' => r = .bool (p xs[i] ys[i]) ∧ H' = H ++ X)) :
    ACall Try.prog 75 [.sl .none (encTs xs), .sl .none (encTs ys), .fn g caps] H (fun r H' => r = .bool (decide (xs.length = ys.length) && (xs.zip ys).all fun q => p q.1 q.2) ∧ H' = H) := by
  have hz : xs.length = ys.length → (xs.zip ys).length = xs.length := fun h => by simp [h]
  have hsx : ScopedL H.length (encTs xs) := scoped_encTs _ _
  have hsy : ScopedL H.length (encTs ys) := scoped_encTs _ _
  refine ACall_intro (H.length) Try.func75 rfl ?_
  simp only [Try.ntmps75, List.length_cons, List.length_nil, List.replicate, List.cons_append, List.nil_append, Nat.reduceAdd, Nat.reduceSub, Nat.zero_add]
  refine AW_seq_k (fun K1 hK1 => ?_)
  refine AW_region ?_
  all_goals (refine AOps_cons rfl (AOp_assign ?_) <;> try simp only [push_cast, Nat.reduceAdd])
  all_goals refine AOps_nil ?_
  all_goals
   refine thenK_normal (hK1 _ ?_)
   try clear hK1
   refine AW_seq_k (fun K2 hK2 => ?_)
   refine AW_seq_k (fun K3 hK3 => ?_)
   refine AW_region ?_
   all_goals refine AOps_cons rfl (AOp_move ?_)
   all_goals (try simp only [push_cast, Nat.reduceAdd])
   all_goals (refine AOps_cons rfl (AOp_len_sl _ _ _ rfl sl25 ?_) <;> try simp only [push_cast, Nat.reduceAdd])
   all_goals refine AOps_cons rfl (AOp_move ?_)
   all_goals (try simp only [push_cast, Nat.reduceAdd])
   all_goals (refine AOps_cons rfl (AOp_len_sl _ _ _ rfl sl25 ?_) <;> try simp only [push_cast, Nat.reduceAdd])
   all_goals (refine AOps_cons rfl (AOp_bin_int _ _ _ _ rfl rfl rfl ?_) <;> try simp only [push_cast, Nat.reduceAdd])
   all_goals refine AOps_nil ?_
   all_goals
    refine thenK_normal (hK3 _ ?_)
    try clear hK3
    apply AW_cond
    case' hc => exact rfl
    case' hf =>
     intro hc4
     try (exfalso; (first | (cases hc4; done) | (simp at hc4; done) | (simp at hc4; omega)); done)
     all_goals (try simp only [decide_eq_true_eq, decide_eq_false_iff_not, Bool.not_eq_true', Bool.not_eq_false', Bool.not_eq_eq_eq_not, Bool.not_true, Bool.not_false] at hc4)
     all_goals
      refine AW_skip ?_
      refine thenK_normal (hK2 _ ?_)
      try clear hK2
      refine AW_seq_k (fun K5 hK5 => ?_)
      refine AW_seq_k (fun K6 hK6 => ?_)
      refine AW_region ?_
      all_goals refine AOps_cons rfl (AOp_move ?_)
      all_goals (try simp only [push_cast, Nat.reduceAdd])
      all_goals (refine AOps_cons rfl (AOp_len_sl _ _ _ rfl sl25 ?_) <;> try simp only [push_cast, Nat.reduceAdd])
      all_goals (refine AOps_cons rfl (AOp_move ?_) <;> try simp only [push_cast, Nat.reduceAdd])
      all_goals refine AOps_nil ?_
      all_goals
       refine thenK_normal (hK6 _ ?_)
       try clear hK6
       refine AW_block ?_
       refine AW_loopR (maskG 32 [1, 0, 12, 0, 0]) (fun (i : Nat) => [(17, .int .i64 i)]) (fun _ => _) (fun i => i ≤ xs.length ∧ xs.length = ys.length ∧ ((xs.zip ys).take i).all (fun q => p q.1 q.2) = true) (fun i => xs.length - i) 0 ⟨Nat.zero_le _, by omega, by simp⟩ (by (simp only [push_cast, Nat.reduceAdd]; (first | refine weak_app0 ?_ | refine weak_same ?_); (repeat (first | exact SlotsOk.nil | refine SlotsOk.junk ?_ | refine SlotsOk.same (by first | (simp [push_cast]; done) | (simp [push_cast, Scoped, ScopedL, *]; done)) ?_ | refine SlotsOk.tok (by first | rfl | (simp; done)) (by first | (simp [push_cast]; done) | (simp [push_cast, Scoped, ScopedL, *]; done)) ?_ | refine SlotsOk.eq (by first | rfl | (congr 1; omega) | (simp; done) | (simp; omega)) (by first | (simp [push_cast]; done) | (simp [push_cast, Scoped, ScopedL, *]; done)) ?_)))) (fun i hi => ?_)
       (try simp only [push_cast, Nat.reduceAdd])
       refine AW_seq_k (fun K7 hK7 => ?_)
       refine AW_region ?_
       all_goals (refine AOps_cons rfl (AOp_bin_int _ _ _ _ rfl rfl rfl ?_) <;> try simp only [push_cast, Nat.reduceAdd])
       all_goals refine AOps_nil ?_
       all_goals
        refine thenK_normal (hK7 _ ?_)
        try clear hK7
        refine AW_seq_k (fun K8 hK8 => ?_)
        apply AW_cond
        case' hc => exact rfl
        case' hf =>
         intro hc9
         try (exfalso; (first | (cases hc9; done) | (simp at hc9; done) | (simp at hc9; omega)); done)
         all_goals (try simp only [decide_eq_true_eq, decide_eq_false_iff_not, Bool.not_eq_true', Bool.not_eq_false', Bool.not_eq_eq_eq_not, Bool.not_true, Bool.not_false] at hc9)
         all_goals
          refine AW_exit ?_
          repeat (first | refine thenK_exit ?_ | refine loopK_exit ?_ | refine blockK_other (by decide) ?_)
          refine blockK_same ?_
          refine thenK_normal (hK5 _ ?_)
          try clear hK5
          refine AW_seq_k (fun K10 hK10 => ?_)
          refine AW_region ?_
          all_goals (refine AOps_cons rfl (AOp_assign ?_) <;> try simp only [push_cast, Nat.reduceAdd])
          all_goals refine AOps_nil ?_
          all_goals
           refine thenK_normal (hK10 _ ?_)
           try clear hK10
           refine AW_ret ?_
           repeat (first | refine thenK_ret ?_ | refine loopK_ret ?_ | refine blockK_ret ?_)
           refine ⟨by first | exact .inl rfl | exact .inr rfl, _, rfl, (by first | exact outok_app 0 rfl (Nat.zero_le _) (by simp) | exact outok_self), by simp [push_cast], ?_⟩
           simp only [push_cast, Nat.reduceAdd]
           have hzi := hz hi.2.1
           have hs : (xs.zip ys).take i = xs.zip ys := List.take_of_length_le (by omega)
           rw [hs] at hi
           rw [hi.2.2]; simp [hi.2.1]
        case' ht =>
         intro hc9
         try (exfalso; (first | (cases hc9; done) | (simp at hc9; done) | (simp at hc9; omega)); done)
         all_goals (try simp only [decide_eq_true_eq, decide_eq_false_iff_not, Bool.not_eq_true', Bool.not_eq_false', Bool.not_eq_eq_eq_not, Bool.not_true, Bool.not_false] at hc9)
         all_goals
          refine AW_skip ?_
          refine thenK_normal (hK8 _ ?_)
          try clear hK8
          refine AW_seq_k (fun K11 hK11 => ?_)
          refine AW_block ?_
          refine AW_seq_k (fun K12 hK12 => ?_)
          refine AW_region ?_
          all_goals refine AOps_cons rfl (AOp_move ?_)
          all_goals (try simp only [push_cast, Nat.reduceAdd])
          all_goals (refine AOps_cons rfl (AOp_indexAddr_sl 27 _ _ _ _ _ rfl rfl sl25 sz27 (by decide) (by exact uni_encTs _) (by first | omega | (simp; omega)) (by first | omega | (simp [push_cast]; omega) | (simp [push_cast]; done)) ?_) <;> try simp only [push_cast, Nat.reduceAdd])
          all_goals (refine AOps_cons rfl (AOp_load_cptr _ _ rfl sz27 ag27 (by simp [push_cast]) ?_) <;> try simp only [push_cast, Nat.reduceAdd])
          all_goals (refine AOps_cons rfl (AOp_alloc _ zr27 (by simp [ofVal, AV.isCell, Value.oneCell']) ?_) <;> try simp only [push_cast, Nat.reduceAdd])
          all_goals refine AOps_cons rfl (AOp_assign ?_)
          all_goals (try simp only [push_cast, Nat.reduceAdd])
          all_goals (refine AOps_cons rfl (AOp_store _ _ _ _ _ rfl (by first | exact hget0 | exact hgetN _ rfl | assumption | exact hgetL (by assumption)) rfl rfl (by first | exact .inl rfl | exact .inr ⟨_, rfl⟩) (by simp [push_cast, AV.isCell]) sz27 (by simp [push_cast]) ?_) <;> try simp only [push_cast, Nat.reduceAdd])
          all_goals refine AOps_nil ?_
          all_goals
           refine thenK_normal (hK12 _ ?_)
           try clear hK12
           refine AW_seq_k (fun K13 hK13 => ?_)
           refine AW_region ?_
           all_goals refine AOps_cons rfl (AOp_move ?_)
           all_goals refine AOps_cons rfl (AOp_move ?_)
           all_goals (try simp only [push_cast, Nat.reduceAdd])
           all_goals (refine AOps_cons rfl (AOp_indexAddr_sl 27 _ _ _ _ _ rfl rfl sl25 sz27 (by decide) (by exact uni_encTs _) (by first | omega | (simp; omega)) (by first | omega | (simp [push_cast]; omega) | (simp [push_cast]; done)) ?_) <;> try simp only [push_cast, Nat.reduceAdd])
           all_goals (refine AOps_cons rfl (AOp_load_cptr _ _ rfl sz27 ag27 (by simp [push_cast]) ?_) <;> try simp only [push_cast, Nat.reduceAdd])
           all_goals (refine AOps_cons rfl (AOp_alloc _ zr27 (by simp [ofVal, AV.isCell, Value.oneCell']) ?_) <;> try simp only [push_cast, Nat.reduceAdd])
           all_goals (refine AOps_cons rfl (AOp_store _ _ _ _ _ rfl (by first | exact hget0 | exact hgetN _ rfl | assumption | exact hgetL (by assumption)) rfl rfl (by first | exact .inl rfl | exact .inr ⟨_, rfl⟩) (by simp [push_cast, AV.isCell]) sz27 (by simp [push_cast]) ?_) <;> try simp only [push_cast, Nat.reduceAdd])
           all_goals refine AOps_nil ?_
           all_goals
            refine thenK_normal (hK13 _ ?_)
            try clear hK13
            refine AW_seq_k (fun K14 hK14 => ?_)
            refine AW_region ?_
            all_goals refine AOps_cons rfl (AOp_move ?_)
            all_goals (try simp only [push_cast, Nat.reduceAdd])
            all_goals (refine AOps_cons rfl (AOp_load_ptr _ _ _ _ rfl (by first | exact hget0 | exact hgetN _ rfl | assumption | exact hgetL (by assumption)) sz27 ag27 (by simp [push_cast]) ?_) <;> try simp only [push_cast, Nat.reduceAdd])
            all_goals (refine AOps_cons rfl (AOp_load_ptr _ _ _ _ rfl (by first | exact hget0 | exact hgetN _ rfl | assumption | exact hgetL (by assumption)) sz27 ag27 (by simp [push_cast]) ?_) <;> try simp only [push_cast, Nat.reduceAdd])
            all_goals refine AOps_cons rfl (AOp_call _ _ _ rfl rfl hg ?_)
            all_goals have hfi := hf i (by omega) (by omega)
            all_goals simp only [push_cast]
            all_goals refine (hfi _).mono ?_
            all_goals rintro r H' ⟨rfl, rfl⟩
            all_goals (try simp only [push_cast, Nat.reduceAdd])
            all_goals (refine AOps_cons rfl (AOp_not _ rfl ?_) <;> try simp only [push_cast, Nat.reduceAdd])
            all_goals refine AOps_nil ?_
            all_goals
             refine thenK_normal (hK14 _ ?_)
             try clear hK14
             apply AW_cond
             case' hc => exact rfl
             case' hf =>
              intro hc15
              try (exfalso; (first | (cases hc15; done) | (simp at hc15; done) | (simp at hc15; omega)); done)
              all_goals (try simp only [decide_eq_true_eq, decide_eq_false_iff_not, Bool.not_eq_true', Bool.not_eq_false', Bool.not_eq_eq_eq_not, Bool.not_true, Bool.not_false] at hc15)
              all_goals
               refine AW_skip ?_
               refine blockK_normal ?_
               refine thenK_normal (hK11 _ ?_)
               try clear hK11
               refine AW_region ?_
               all_goals refine AOps_cons rfl (AOp_bin_int _ _ _ _ rfl rfl rfl ?_)
               all_goals (try simp only [push_cast, Nat.reduceAdd])
               all_goals (try rw [IntWalk.i64_in _ (by omega)])
               all_goals (try simp only [push_cast, Nat.reduceAdd])
               all_goals (refine AOps_cons rfl (AOp_move ?_) <;> try simp only [push_cast, Nat.reduceAdd])
               all_goals refine AOps_nil ?_
               all_goals
                refine loopK_normal ?_
                refine ⟨i + 1, ⟨by omega, by omega, ?_⟩, by (simp only [push_cast, Nat.reduceAdd]; (first | refine weak_app0 ?_ | refine weak_same ?_); (repeat (first | exact SlotsOk.nil | refine SlotsOk.junk ?_ | refine SlotsOk.same (by first | (simp [push_cast]; done) | (simp [push_cast, Scoped, ScopedL, *]; done)) ?_ | refine SlotsOk.tok (by first | rfl | (simp; done)) (by first | (simp [push_cast]; done) | (simp [push_cast, Scoped, ScopedL, *]; done)) ?_ | refine SlotsOk.eq (by first | rfl | (congr 1; omega) | (simp; done) | (simp; omega)) (by first | (simp [push_cast]; done) | (simp [push_cast, Scoped, ScopedL, *]; done)) ?_))), by omega⟩
                have hzi := hz hi.2.1
                exact all_take_true hi.2.2 (by omega) (by simpa using ‹p (xs[i]'(by omega)) (ys[i]'(by omega)) = true›)
             case' ht =>
              intro hc15
              try (exfalso; (first | (cases hc15; done) | (simp at hc15; done) | (simp at hc15; omega)); done)
              all_goals (try simp only [decide_eq_true_eq, decide_eq_false_iff_not, Bool.not_eq_true', Bool.not_eq_false', Bool.not_eq_eq_eq_not, Bool.not_true, Bool.not_false] at hc15)
              all_goals
               refine AW_seq_k (fun K16 hK16 => ?_)
               refine AW_region ?_
               all_goals (refine AOps_cons rfl (AOp_assign ?_) <;> try simp only [push_cast, Nat.reduceAdd])
               all_goals refine AOps_nil ?_
               all_goals
                refine thenK_normal (hK16 _ ?_)
                try clear hK16
                refine AW_ret ?_
                repeat (first | refine thenK_ret ?_ | refine loopK_ret ?_ | refine blockK_ret ?_)
                refine ⟨by first | exact .inl rfl | exact .inr rfl, _, rfl, (by first | exact outok_app 0 rfl (Nat.zero_le _) (by simp) | exact outok_self), by simp [push_cast], ?_⟩
                simp only [push_cast, Nat.reduceAdd]
                have hzi := hz hi.2.1
                have hp : p (xs[i]'(by omega)) (ys[i]'(by omega)) = false := by assumption
                have ha := all_get (xs := xs.zip ys) (p := fun q => p q.1 q.2) (i := i) (by omega) (by simpa using hp)
                rw [ha]; simp
    case' ht =>
     intro hc4
     try (exfalso; (first | (cases hc4; done) | (simp at hc4; done) | (simp at hc4; omega)); done)
     all_goals (try simp only [decide_eq_true_eq, decide_eq_false_iff_not, Bool.not_eq_true', Bool.not_eq_false', Bool.not_eq_eq_eq_not, Bool.not_true, Bool.not_false] at hc4)
     all_goals
      refine AW_seq_k (fun K17 hK17 => ?_)
      refine AW_region ?_
      all_goals (refine AOps_cons rfl (AOp_assign ?_) <;> try simp only [push_cast, Nat.reduceAdd])
      all_goals refine AOps_nil ?_
      all_goals
       refine thenK_normal (hK17 _ ?_)
       try clear hK17
       refine AW_ret ?_
       repeat (first | refine thenK_ret ?_ | refine loopK_ret ?_ | refine blockK_ret ?_)
       refine ⟨by first | exact .inl rfl | exact .inr rfl, _, rfl, (by first | exact outok_app 0 rfl (Nat.zero_le _) (by simp) | exact outok_self), by simp [push_cast], ?_⟩
       simp only [push_cast, Nat.reduceAdd]
       have hne : ¬ xs.length = ys.length := (by omega)
       simp [hne]
theorem zip_all_eq {α : Type} [DecidableEq α] : ∀ (xs ys : List α), (decide (xs.length = ys.length) && (xs.zip ys).all fun q => decide (q.1 = q.2)) = decide (xs = ys)
  | [], [] => by simp
  | [], _ :: _ => by simp
  | _ :: _, [] => by simp
  | x :: xs, y :: ys => by
    have := zip_all_eq xs ys
    rw [Bool.eq_iff_iff] at this ⊢
    simp at this ⊢
    constructor
    · rintro ⟨a, b, c⟩; exact ⟨b, this.1 ⟨a, c⟩⟩
    · rintro ⟨b, c⟩; have := this.2 c; exact ⟨this.1, b, this.2⟩
theorem equal_ac (a : Term) : ∀ b : Term, a.bulk ≤ 1099511627775 → b.bulk ≤ 1099511627775 → ∀ H, ACall Try.prog 56 [encT a, encT b] H (fun r H' => r = .bool (decide (a = b)) ∧ H' = H) := by
  refine Term.ind (p := fun a => ∀ b : Term, a.bulk ≤ 1099511627775 → b.bulk ≤ 1099511627775 → ∀ H, ACall Try.prog 56 [encT a, encT b] H (fun r H' => r = .bool (decide (a = b)) ∧ H' = H)) (fun n v xs ih => ?_) a
  rintro ⟨m, u, ys⟩ hb hb2 H
  have hlen := Term.len_le (n := n) (v := v) (xs := xs)
  have hlen2 := Term.len_le (n := m) (v := u) (xs := ys)
  simp only [encT, Term.name, Term.var, Term.args]
  refine ACall_intro (H.length) Try.func56 rfl ?_
  simp only [Try.ntmps56, List.length_cons, List.length_nil, List.replicate, List.cons_append, List.nil_append, Nat.reduceAdd, Nat.reduceSub, Nat.zero_add]
  refine AW_seq_k (fun K18 hK18 => ?_)
  refine AW_region ?_
  all_goals (refine AOps_cons rfl (AOp_box _ _ rfl rfl (by first | exact .inl rfl | exact .inr ⟨_, rfl⟩) (by simp [push_cast, AV.isCell]) ?_) <;> try simp only [push_cast, Nat.reduceAdd])
  all_goals (refine AOps_cons rfl (AOp_box _ _ rfl rfl (by first | exact .inl rfl | exact .inr ⟨_, rfl⟩) (by simp [push_cast, AV.isCell]) ?_) <;> try simp only [push_cast, Nat.reduceAdd])
  all_goals (refine AOps_cons rfl (AOp_assign ?_) <;> try simp only [push_cast, Nat.reduceAdd])
  all_goals refine AOps_nil ?_
  all_goals
   refine thenK_normal (hK18 _ ?_)
   try clear hK18
   refine AW_seq_k (fun K19 hK19 => ?_)
   refine AW_region ?_
   all_goals (refine AOps_cons rfl (AOp_fieldAddr_ptr _ _ _ _ rfl fd27_0 (by decide) ?_) <;> try simp only [push_cast, Nat.reduceAdd])
   all_goals (refine AOps_cons rfl (AOp_load1_ptr _ _ _ _ _ rfl (by first | exact hget0 | exact hgetN _ rfl | assumption | exact hgetL (by assumption)) sz9 ag9 (by decide) (by simp [push_cast]) rfl ?_) <;> try simp only [push_cast, Nat.reduceAdd])
   all_goals (refine AOps_cons rfl (AOp_fieldAddr_ptr _ _ _ _ rfl fd27_0 (by decide) ?_) <;> try simp only [push_cast, Nat.reduceAdd])
   all_goals (refine AOps_cons rfl (AOp_load1_ptr _ _ _ _ _ rfl (by first | exact hget0 | exact hgetN _ rfl | assumption | exact hgetL (by assumption)) sz9 ag9 (by decide) (by simp [push_cast]) rfl ?_) <;> try simp only [push_cast, Nat.reduceAdd])
   all_goals (refine AOps_cons rfl (AOp_bin_str _ _ _ rfl rfl rfl ?_) <;> try simp only [push_cast, Nat.reduceAdd])
   all_goals refine AOps_cons rfl (AOp_move ?_)
   all_goals (try simp only [push_cast, Nat.reduceAdd])
   all_goals (try refine AOps_split 10 _ rfl (fun hg20 => ?_) (fun hg20 => ?_))
   all_goals (try (exfalso; (first | (cases hg20; done) | (simp at hg20; done) | (simp at hg20; omega)); done))
   all_goals (try simp only [decide_eq_true_eq, decide_eq_false_iff_not, Bool.not_eq_true', Bool.not_eq_false', Bool.not_eq_eq_eq_not, Bool.not_true, Bool.not_false] at hg20)
   all_goals first
    | refine AOps_skip rfl ?_
    | (refine AOps_cons rfl ?_
       refine AOp_fieldAddr_ptr _ _ _ _ rfl fd27_1 (by decide) ?_)
   all_goals (try simp only [push_cast, Nat.reduceAdd])
   all_goals first
    | refine AOps_skip rfl ?_
    | (refine AOps_cons rfl ?_
       refine AOp_load1_ptr _ _ _ _ _ rfl (by first | exact hget0 | exact hgetN _ rfl | assumption | exact hgetL (by assumption)) sz4 ag4 (by decide) (by simp [push_cast]) rfl ?_)
   all_goals (try simp only [push_cast, Nat.reduceAdd])
   all_goals first
    | refine AOps_skip rfl ?_
    | (refine AOps_cons rfl ?_
       refine AOp_fieldAddr_ptr _ _ _ _ rfl fd27_1 (by decide) ?_)
   all_goals (try simp only [push_cast, Nat.reduceAdd])
   all_goals first
    | refine AOps_skip rfl ?_
    | (refine AOps_cons rfl ?_
       refine AOp_load1_ptr _ _ _ _ _ rfl (by first | exact hget0 | exact hgetN _ rfl | assumption | exact hgetL (by assumption)) sz4 ag4 (by decide) (by simp [push_cast]) rfl ?_)
   all_goals (try simp only [push_cast, Nat.reduceAdd])
   all_goals first
    | refine AOps_skip rfl ?_
    | (refine AOps_cons rfl ?_
       refine AOp_eql_bool _ _ rfl rfl un4 ?_)
   all_goals (try simp only [push_cast, Nat.reduceAdd])
   all_goals refine AOps_cons rfl (AOp_pick _ rfl ?_)
   all_goals refine AOps_cons rfl (AOp_move ?_)
   all_goals (try simp only [push_cast, Nat.reduceAdd])
   all_goals (try refine AOps_split 17 _ rfl (fun hg21 => ?_) (fun hg21 => ?_))
   all_goals (try (exfalso; (first | (cases hg21; done) | (simp at hg21; done) | (simp at hg21; omega)); done))
   all_goals (try simp only [decide_eq_true_eq, decide_eq_false_iff_not, Bool.not_eq_true', Bool.not_eq_false', Bool.not_eq_eq_eq_not, Bool.not_true, Bool.not_false] at hg21)
   all_goals first
    | refine AOps_skip rfl ?_
    | (refine AOps_cons rfl ?_
       refine AOp_fieldAddr_ptr _ _ _ _ rfl fd27_2 (by decide) ?_)
   all_goals (try simp only [push_cast, Nat.reduceAdd])
   all_goals first
    | refine AOps_skip rfl ?_
    | (refine AOps_cons rfl ?_
       refine AOp_load1_ptr _ _ _ _ _ rfl (by first | exact hget0 | exact hgetN _ rfl | assumption | exact hgetL (by assumption)) sz25 ag25 (by decide) (by simp [push_cast]) rfl ?_)
   all_goals (try simp only [push_cast, Nat.reduceAdd])
   all_goals first
    | refine AOps_skip rfl ?_
    | (refine AOps_cons rfl ?_
       refine AOp_fieldAddr_ptr _ _ _ _ rfl fd27_2 (by decide) ?_)
   all_goals (try simp only [push_cast, Nat.reduceAdd])
   all_goals first
    | refine AOps_skip rfl ?_
    | (refine AOps_cons rfl ?_
       refine AOp_load1_ptr _ _ _ _ _ rfl (by first | exact hget0 | exact hgetN _ rfl | assumption | exact hgetL (by assumption)) sz25 ag25 (by decide) (by simp [push_cast]) rfl ?_)
   all_goals (try simp only [push_cast, Nat.reduceAdd])
   all_goals first
    | refine AOps_skip rfl ?_
    | (refine AOps_cons rfl ?_
       refine AOp_call _ _ _ rfl rfl ok75 ?_
       (try simp only [push_cast, Nat.reduceAdd])
       refine (eqFuncT_ac xs ys 56 [] (fun x y => decide (x = y)) _ (by omega) (by omega) ok56 (by simp [ScopedL]) (fun i h h' X => ?_)).mono ?_
       · have b1 := Term.arg_le (n := n) (v := v) (show xs[i] ∈ xs by simp)
         have b2 := Term.arg_le (n := m) (v := u) (show ys[i] ∈ ys by simp)
         exact ih _ (by simp) _ (by omega) (by omega) _
       rintro r H' ⟨rfl, rfl⟩
       rw [zip_all_eq])
   all_goals (try simp only [push_cast, Nat.reduceAdd])
   all_goals refine AOps_cons rfl (AOp_pick _ rfl ?_)
   all_goals (refine AOps_cons rfl (AOp_assign ?_) <;> try simp only [push_cast, Nat.reduceAdd])
   all_goals refine AOps_nil ?_
   all_goals
    refine thenK_normal (hK19 _ ?_)
    try clear hK19
    refine AW_ret ?_
    repeat (first | refine thenK_ret ?_ | refine loopK_ret ?_ | refine blockK_ret ?_)
    refine ⟨by first | exact .inl rfl | exact .inr rfl, _, rfl, (by first | exact outok_app 0 rfl (Nat.zero_le _) (by simp) | exact outok_self), by simp [push_cast], ?_⟩
    simp only [push_cast, Nat.reduceAdd]
    first
      | (have h1 : n = m := (by assumption); have h2 : v = u := (by simp_all); simp [h1, h2]; done)
      | (have h1 : n = m := (by assumption); have h2 : ¬ v = u := (by simp_all); simp [h2]; done)
      | (have h1 : ¬ n = m := (by assumption); simp [h1]; done)
      | trace_state
theorem bulk_len (ts : List Term) : ts.length ≤ (ts.map Term.bulk).sum := by
  induction ts with
  | nil => simp
  | cons a r ih => have := a.size_le; have := a.size_pos; simp; omega
theorem firstErr_drop : ∀ (ts : List Term) (i : Nat), firstErr (ts.take i) = 0 → firstErr ts = firstErr (ts.drop i)
  | ts, 0, _ => rfl
  | [], _ + 1, _ => rfl
  | a :: r, i + 1, h => by
    simp only [List.take_succ_cons, firstErr] at h
    by_cases h0 : checkP a = 0
    · simp only [h0, if_true] at h
      simp only [firstErr, h0, if_true, List.drop_succ_cons]
      exact firstErr_drop r i h
    · rw [if_neg h0] at h; exact absurd h h0
theorem firstErr_take : ∀ (ts : List Term) (i : Nat) (hi : i < ts.length), firstErr (ts.take i) = 0 → checkP ts[i] = 0 → firstErr (ts.take (i + 1)) = 0
  | [], _, hi, _, _ => absurd hi (by simp)
  | a :: r, 0, _, _, h => by have h' : checkP a = 0 := h
                             simp [firstErr, h']
  | a :: r, i + 1, hi, h, h2 => by
    simp only [List.take_succ_cons, firstErr] at h ⊢
    by_cases h0 : checkP a = 0
    · simp only [h0, if_true] at h ⊢; exact firstErr_take r i (by simpa using hi) h (by simpa using h2)
    · rw [if_neg h0] at h; exact absurd h h0
theorem all_ac (ts : List Term) (hb : (ts.map Term.bulk).sum ≤ 1099511627775) (H : List AObj) : ACall Try.prog 27 [.sl .none (encTs ts)] H (fun r H' => r = .int .i64 (firstErr ts) ∧ H' = H) := by
  have hlen := bulk_len ts
  refine ACall_intro (H.length) Try.func27 rfl ?_
  simp only [Try.ntmps27, List.length_cons, List.length_nil, List.replicate, List.cons_append, List.nil_append, Nat.reduceAdd, Nat.reduceSub, Nat.zero_add]
  refine AW_seq_k (fun K22 hK22 => ?_)
  refine AW_region ?_
  all_goals (refine AOps_cons rfl (AOp_assign ?_) <;> try simp only [push_cast, Nat.reduceAdd])
  all_goals refine AOps_nil ?_
  all_goals
   refine thenK_normal (hK22 _ ?_)
   try clear hK22
   refine AW_seq_k (fun K23 hK23 => ?_)
   refine AW_seq_k (fun K24 hK24 => ?_)
   refine AW_region ?_
   all_goals refine AOps_cons rfl (AOp_move ?_)
   all_goals (try simp only [push_cast, Nat.reduceAdd])
   all_goals (refine AOps_cons rfl (AOp_len_sl _ _ _ rfl sl25 ?_) <;> try simp only [push_cast, Nat.reduceAdd])
   all_goals (refine AOps_cons rfl (AOp_move ?_) <;> try simp only [push_cast, Nat.reduceAdd])
   all_goals refine AOps_nil ?_
   all_goals
    refine thenK_normal (hK24 _ ?_)
    try clear hK24
    refine AW_block ?_
    refine AW_loopR (maskG 18 [6, 0, 0]) (fun (i : Nat) => [(8, .int .i64 i)]) (fun _ => _) (fun i => i ≤ ts.length ∧ firstErr (ts.take i) = 0) (fun i => ts.length - i) 0 ⟨Nat.zero_le _, rfl⟩ (by (simp only [push_cast, Nat.reduceAdd]; (first | refine weak_app0 ?_ | refine weak_same ?_); (repeat (first | exact SlotsOk.nil | refine SlotsOk.junk ?_ | refine SlotsOk.same (by first | (simp [push_cast]; done) | (simp [push_cast, Scoped, ScopedL, *]; done)) ?_ | refine SlotsOk.tok (by first | rfl | (simp; done)) (by first | (simp [push_cast]; done) | (simp [push_cast, Scoped, ScopedL, *]; done)) ?_ | refine SlotsOk.eq (by first | rfl | (congr 1; omega) | (simp; done) | (simp; omega)) (by first | (simp [push_cast]; done) | (simp [push_cast, Scoped, ScopedL, *]; done)) ?_)))) (fun i hi => ?_)
    (try simp only [push_cast, Nat.reduceAdd])
    refine AW_seq_k (fun K25 hK25 => ?_)
    refine AW_region ?_
    all_goals (refine AOps_cons rfl (AOp_bin_int _ _ _ _ rfl rfl rfl ?_) <;> try simp only [push_cast, Nat.reduceAdd])
    all_goals refine AOps_nil ?_
    all_goals
     refine thenK_normal (hK25 _ ?_)
     try clear hK25
     refine AW_seq_k (fun K26 hK26 => ?_)
     apply AW_cond
     case' hc => exact rfl
     case' hf =>
      intro hc27
      try (exfalso; (first | (cases hc27; done) | (simp at hc27; done) | (simp at hc27; omega)); done)
      all_goals (try simp only [decide_eq_true_eq, decide_eq_false_iff_not, Bool.not_eq_true', Bool.not_eq_false', Bool.not_eq_eq_eq_not, Bool.not_true, Bool.not_false] at hc27)
      all_goals
       refine AW_exit ?_
       repeat (first | refine thenK_exit ?_ | refine loopK_exit ?_ | refine blockK_other (by decide) ?_)
       refine blockK_same ?_
       refine thenK_normal (hK23 _ ?_)
       try clear hK23
       refine AW_seq_k (fun K28 hK28 => ?_)
       refine AW_region ?_
       all_goals (refine AOps_cons rfl (AOp_assign ?_) <;> try simp only [push_cast, Nat.reduceAdd])
       all_goals refine AOps_nil ?_
       all_goals
        refine thenK_normal (hK28 _ ?_)
        try clear hK28
        refine AW_ret ?_
        repeat (first | refine thenK_ret ?_ | refine loopK_ret ?_ | refine blockK_ret ?_)
        refine ⟨by first | exact .inl rfl | exact .inr rfl, _, rfl, (by first | exact outok_app 0 rfl (Nat.zero_le _) (by simp) | exact outok_self), by simp [push_cast], ?_⟩
        simp only [push_cast, Nat.reduceAdd]
        have hs : ts.take i = ts := List.take_of_length_le (by omega)
        rw [hs] at hi
        rw [hi.2]; simp
     case' ht =>
      intro hc27
      try (exfalso; (first | (cases hc27; done) | (simp at hc27; done) | (simp at hc27; omega)); done)
      all_goals (try simp only [decide_eq_true_eq, decide_eq_false_iff_not, Bool.not_eq_true', Bool.not_eq_false', Bool.not_eq_eq_eq_not, Bool.not_true, Bool.not_false] at hc27)
      all_goals
       refine AW_skip ?_
       refine thenK_normal (hK26 _ ?_)
       try clear hK26
       refine AW_seq_k (fun K29 hK29 => ?_)
       refine AW_block ?_
       refine AW_seq_k (fun K30 hK30 => ?_)
       refine AW_region ?_
       all_goals (refine AOps_cons rfl (AOp_indexAddr_sl 27 _ _ _ _ _ rfl rfl sl25 sz27 (by decide) (by exact uni_encTs _) (by first | omega | (simp; omega)) (by first | omega | (simp [push_cast]; omega) | (simp [push_cast]; done)) ?_) <;> try simp only [push_cast, Nat.reduceAdd])
       all_goals (refine AOps_cons rfl (AOp_load_cptr _ _ rfl sz27 ag27 (by simp [push_cast]) ?_) <;> try simp only [push_cast, Nat.reduceAdd])
       all_goals (refine AOps_cons rfl (AOp_alloc _ zr27 (by simp [ofVal, AV.isCell, Value.oneCell']) ?_) <;> try simp only [push_cast, Nat.reduceAdd])
       all_goals (refine AOps_cons rfl (AOp_store _ _ _ _ _ rfl (by first | exact hget0 | exact hgetN _ rfl | assumption | exact hgetL (by assumption)) rfl rfl (by first | exact .inl rfl | exact .inr ⟨_, rfl⟩) (by simp [push_cast, AV.isCell]) sz27 (by simp [push_cast]) ?_) <;> try simp only [push_cast, Nat.reduceAdd])
       all_goals refine AOps_nil ?_
       all_goals
        refine thenK_normal (hK30 _ ?_)
        try clear hK30
        refine AW_seq_k (fun K31 hK31 => ?_)
        refine AW_region ?_
        all_goals (refine AOps_cons rfl (AOp_load_ptr _ _ _ _ rfl (by first | exact hget0 | exact hgetN _ rfl | assumption | exact hgetL (by assumption)) sz27 ag27 (by simp [push_cast]) ?_) <;> try simp only [push_cast, Nat.reduceAdd])
        all_goals refine AOps_cons rfl (AOp_call _ _ _ rfl rfl ok44 ?_)
        all_goals (try simp only [push_cast, Nat.reduceAdd])
        all_goals have hbx := le_sum Term.bulk ts (ts[i]'(by omega)) (by simp)
        all_goals refine (check_ac (ts[i]'(by omega)) (by omega) _).mono ?_
        all_goals rintro r H' ⟨rfl, rfl⟩
        all_goals (try simp only [push_cast, Nat.reduceAdd])
        all_goals (refine AOps_cons rfl (AOp_assign ?_) <;> try simp only [push_cast, Nat.reduceAdd])
        all_goals refine AOps_nil ?_
        all_goals
         refine thenK_normal (hK31 _ ?_)
         try clear hK31
         refine AW_seq_k (fun K32 hK32 => ?_)
         refine AW_region ?_
         all_goals refine AOps_cons rfl (AOp_move ?_)
         all_goals (try simp only [push_cast, Nat.reduceAdd])
         all_goals (refine AOps_cons rfl (AOp_bin_int _ _ _ _ rfl rfl rfl ?_) <;> try simp only [push_cast, Nat.reduceAdd])
         all_goals refine AOps_nil ?_
         all_goals
          refine thenK_normal (hK32 _ ?_)
          try clear hK32
          apply AW_cond
          case' hc => exact rfl
          case' hf =>
           intro hc33
           try (exfalso; (first | (cases hc33; done) | (simp at hc33; done) | (simp at hc33; omega)); done)
           all_goals (try simp only [decide_eq_true_eq, decide_eq_false_iff_not, Bool.not_eq_true', Bool.not_eq_false', Bool.not_eq_eq_eq_not, Bool.not_true, Bool.not_false] at hc33)
           all_goals
            refine AW_skip ?_
            refine blockK_normal ?_
            refine thenK_normal (hK29 _ ?_)
            try clear hK29
            refine AW_region ?_
            all_goals refine AOps_cons rfl (AOp_bin_int _ _ _ _ rfl rfl rfl ?_)
            all_goals (try simp only [push_cast, Nat.reduceAdd])
            all_goals (try rw [IntWalk.i64_in _ (by omega)])
            all_goals (try simp only [push_cast, Nat.reduceAdd])
            all_goals (refine AOps_cons rfl (AOp_move ?_) <;> try simp only [push_cast, Nat.reduceAdd])
            all_goals refine AOps_nil ?_
            all_goals
             refine loopK_normal ?_
             exact ⟨i + 1, ⟨by omega, firstErr_take ts i (by omega) hi.2 (by assumption)⟩, by (simp only [push_cast, Nat.reduceAdd]; (first | refine weak_app0 ?_ | refine weak_same ?_); (repeat (first | exact SlotsOk.nil | refine SlotsOk.junk ?_ | refine SlotsOk.same (by first | (simp [push_cast]; done) | (simp [push_cast, Scoped, ScopedL, *]; done)) ?_ | refine SlotsOk.tok (by first | rfl | (simp; done)) (by first | (simp [push_cast]; done) | (simp [push_cast, Scoped, ScopedL, *]; done)) ?_ | refine SlotsOk.eq (by first | rfl | (congr 1; omega) | (simp; done) | (simp; omega)) (by first | (simp [push_cast]; done) | (simp [push_cast, Scoped, ScopedL, *]; done)) ?_))), by omega⟩
          case' ht =>
           intro hc33
           try (exfalso; (first | (cases hc33; done) | (simp at hc33; done) | (simp at hc33; omega)); done)
           all_goals (try simp only [decide_eq_true_eq, decide_eq_false_iff_not, Bool.not_eq_true', Bool.not_eq_false', Bool.not_eq_eq_eq_not, Bool.not_true, Bool.not_false] at hc33)
           all_goals
            refine AW_seq_k (fun K34 hK34 => ?_)
            refine AW_region ?_
            all_goals refine AOps_cons rfl (AOp_move ?_)
            all_goals (refine AOps_cons rfl (AOp_assign ?_) <;> try simp only [push_cast, Nat.reduceAdd])
            all_goals refine AOps_nil ?_
            all_goals
             refine thenK_normal (hK34 _ ?_)
             try clear hK34
             refine AW_ret ?_
             repeat (first | refine thenK_ret ?_ | refine loopK_ret ?_ | refine blockK_ret ?_)
             refine ⟨by first | exact .inl rfl | exact .inr rfl, _, rfl, (by first | exact outok_app 0 rfl (Nat.zero_le _) (by simp) | exact outok_self), by simp [push_cast], ?_⟩
             simp only [push_cast, Nat.reduceAdd]
             have hf := firstErr_drop ts i hi.2
             rw [List.drop_eq_getElem_cons (by omega)] at hf
             have hne : ¬ checkP (ts[i]'(by omega)) = 0 := (by assumption)
             simp only [firstErr, hne, if_false] at hf
             rw [hf]; simp
end Ab
set_option maxRecDepth 10000
namespace Ab
open Go Go.Proofs
attribute [local push_cast] encT
@[reducible] def encP (p : List Int) : List AV := encL (AV.int .i64) p
theorem uni_encP (p : List Int) : Uni 1 (encP p) := uni_encL (enc := AV.int .i64) (k := 1) (fun _ => rfl) p
theorem cell_encP (p : List Int) : ∀ c, c ∈ flat (encP p) → c.isCell = true := by
  intro c hc
  unfold flat at hc
  rw [List.mem_flatMap] at hc
  obtain ⟨a, ha, hc⟩ := hc
  simp [encP, encL] at ha
  obtain ⟨t, _, rfl⟩ := ha
  simp [AV.cells] at hc
  subst hc; rfl
theorem scoped_encP (n : Nat) (p : List Int) : ScopedL n (encP p) := scoped_encL (fun x => by simp [Scoped]) p
theorem stripL_encP (n : Nat) (p : List Int) : stripL n (encP p) = encP p := by rw [stripL_eq]; simp [encP, encL, strip]
theorem encP_snoc (p : List Int) (i : Int) : encP p ++ [.int .i64 i] = encP (p ++ [i]) := by simp [encP, encL]
def walkL : List Term → Int → List Int → List (List Int × Term)
  | [], _, _ => []
  | .mk n v xs :: r, i, p => (p ++ [i], .mk n v xs) :: (walkL xs 0 (p ++ [i]) ++ walkL r (i + 1) p)
def walkT (t : Term) (p : List Int) : List (List Int × Term) := (p, t) :: walkL t.args 0 p
theorem walkL_cons (x : Term) (r : List Term) (i : Int) (p : List Int) : walkL (x :: r) i p = walkT x (p ++ [i]) ++ walkL r (i + 1) p := by cases x; simp [walkL, walkT, Term.args]
theorem walkL_split : ∀ (xs : List Term) (k : Nat) (i : Int) (p : List Int), k ≤ xs.length → walkL xs i p = walkL (xs.take k) i p ++ walkL (xs.drop k) (i + k) p
  | xs, 0, i, p, _ => by simp [walkL]
  | [], _ + 1, i, p, h => by simp at h
  | x :: r, k + 1, i, p, h => by
    have := walkL_split r k (i + 1) p (by simpa using h)
    rw [walkL_cons, this, List.take_succ_cons, walkL_cons, List.drop_succ_cons, List.append_assoc]
    congr 3; push_cast; omega
theorem walkL_take (xs : List Term) (k : Nat) (p : List Int) (h : k < xs.length) : walkL (xs.take (k + 1)) 0 p = walkL (xs.take k) 0 p ++ walkT xs[k] (p ++ [(k : Int)]) := by
  have := walkL_split (xs.take (k + 1)) k 0 p (by simp; omega)
  have e : (xs.drop k).take 1 = [xs[k]] := by rw [List.drop_eq_getElem_cons h]; rfl
  rw [this, List.take_take, List.drop_take, show min k (k + 1) = k by omega, show k + 1 - k = 1 by omega, e]
  simp [walkL_cons, walkL]
def runTo {β : Type} (nx : List β → β → Option Code) : List β → List β → List β × Option Code
  | pre, [] => (pre, none)
  | pre, x :: xs => match nx pre x with
    | none => runTo nx (pre ++ [x]) xs
    | some c => (pre ++ [x], some c)
theorem runTo_append {β : Type} (nx : List β → β → Option Code) : ∀ (xs ys pre : List β), runTo nx pre (xs ++ ys) = match runTo nx pre xs with
    | (q, none) => runTo nx q ys
    | (q, some c) => (q, some c)
  | [], ys, pre => rfl
  | x :: xs, ys, pre => by
    simp only [List.cons_append, runTo]
    cases nx pre x with
    | none => exact runTo_append nx xs ys _
    | some c => rfl
theorem runTo_none {β : Type} (nx : List β → β → Option Code) : ∀ (xs pre : List β), AllNone nx pre → (runTo nx pre xs).2 = none → (runTo nx pre xs).1 = pre ++ xs ∧ AllNone nx (pre ++ xs)
  | [], pre, h, _ => by simp [runTo]; exact h
  | x :: xs, pre, h, hr => by
    simp only [runTo] at hr ⊢
    cases hx : nx pre x with
    | none =>
      simp only [hx] at hr ⊢
      have := runTo_none nx xs (pre ++ [x]) (h.snoc hx) hr
      simpa using this
    | some c => simp [hx] at hr
theorem runTo_some {β : Type} (nx : List β → β → Option Code) : ∀ (xs pre : List β) (c : Code), AllNone nx pre → (runTo nx pre xs).2 = some c → ∃ a x s, xs = a ++ x :: s ∧ AllNone nx (pre ++ a) ∧ nx (pre ++ a) x = some c ∧ (runTo nx pre xs).1 = pre ++ a ++ [x]
  | [], pre, c, h, hr => by simp [runTo] at hr
  | x :: xs, pre, c, h, hr => by
    simp only [runTo] at hr ⊢
    cases hx : nx pre x with
    | none =>
      simp only [hx] at hr ⊢
      obtain ⟨a, y, s, e1, e2, e3, e4⟩ := runTo_some nx xs (pre ++ [x]) c (h.snoc hx) hr
      exact ⟨x :: a, y, s, by simp [e1], by simpa using e2, by simpa using e3, by simpa using e4⟩
    | some c' =>
      simp only [hx, Option.some.injEq] at hr ⊢
      subst hr
      exact ⟨[], x, xs, rfl, by simpa using h, by simpa using hx, by simp⟩
theorem clone_ac (p : List Int) (hb : p.length ≤ 1099511627776) (H : List AObj) : ACall Try.prog 87 [.sl .none (encP p)] H
    (fun r H' => (p = [] ∧ r = .sl .zero [] ∧ H' = H) ∨ (p ≠ [] ∧ r = .sl (.own H.length) (encP p) ∧ H' = H ++ [.tok 3 1 p.length])) := by
  have hl : (encP p).length = p.length := encL_length _ _
  have hsp := scoped_encP H.length p
  by_cases hp : p = []
  · subst hp
    refine ACall_intro (H.length) Try.func87 rfl ?_
    simp only [Try.ntmps87, List.length_cons, List.length_nil, List.replicate, List.cons_append, List.nil_append, Nat.reduceAdd, Nat.reduceSub, Nat.zero_add]
    refine AW_seq_k (fun K1 hK1 => ?_)
    refine AW_region ?_
    all_goals (refine AOps_cons rfl (AOp_assign ?_) <;> try simp only [push_cast, Nat.reduceAdd])
    all_goals refine AOps_nil ?_
    all_goals
     refine thenK_normal (hK1 _ ?_)
     try clear hK1
     refine AW_seq_k (fun K2 hK2 => ?_)
     refine AW_seq_k (fun K3 hK3 => ?_)
     refine AW_region ?_
     all_goals refine AOps_cons rfl (AOp_move ?_)
     all_goals (try simp only [push_cast, Nat.reduceAdd])
     all_goals refine AOps_cons rfl ?_
     all_goals refine AOp_eql_nil _ _ rfl sl44 (fun nb4 hb4 => ?_)
     all_goals (try simp only [push_cast, Nat.reduceAdd])
     all_goals refine AOps_nil ?_
     all_goals
      refine thenK_normal (hK3 _ ?_)
      try clear hK3
      apply AW_cond
      case' hc => exact rfl
      case' hf =>
       intro hc5
       try (exfalso; (first | (cases hc5; done) | (simp at hc5; done) | (simp at hc5; omega)); done)
       all_goals (try simp only [decide_eq_true_eq, decide_eq_false_iff_not, Bool.not_eq_true', Bool.not_eq_false', Bool.not_eq_eq_eq_not, Bool.not_true, Bool.not_false] at hc5)
       all_goals
        refine AW_skip ?_
        refine thenK_normal (hK2 _ ?_)
        try clear hK2
        refine AW_seq_k (fun K6 hK6 => ?_)
        refine AW_region ?_
        all_goals (refine AOps_cons rfl (AOp_buildSlice0 sl44 sz3 rfl ?_) <;> try simp only [push_cast, Nat.reduceAdd])
        all_goals refine AOps_cons rfl (AOp_move ?_)
        all_goals (try simp only [push_cast, Nat.reduceAdd])
        all_goals (refine AOps_cons rfl (AOp_append_zero0 _ _ rfl rfl sl44 sz3 by3 zr3 ?_) <;> try simp only [push_cast, Nat.reduceAdd])
        all_goals (refine AOps_cons rfl (AOp_assign ?_) <;> try simp only [push_cast, Nat.reduceAdd])
        all_goals refine AOps_nil ?_
        all_goals
         refine thenK_normal (hK6 _ ?_)
         try clear hK6
         refine AW_ret ?_
         repeat (first | refine thenK_ret ?_ | refine loopK_ret ?_ | refine blockK_ret ?_)
         refine ⟨by first | exact .inl rfl | exact .inr rfl, _, rfl, (by first | exact outok_app 0 rfl (Nat.zero_le _) (by simp) | exact outok_self), by simp [push_cast], ?_⟩
         simp only [push_cast, Nat.reduceAdd]
         exact .inl ⟨by simp, by simp, by simp⟩
      case' ht =>
       intro hc5
       try (exfalso; (first | (cases hc5; done) | (simp at hc5; done) | (simp at hc5; omega)); done)
       all_goals (try simp only [decide_eq_true_eq, decide_eq_false_iff_not, Bool.not_eq_true', Bool.not_eq_false', Bool.not_eq_eq_eq_not, Bool.not_true, Bool.not_false] at hc5)
       all_goals
        refine AW_seq_k (fun K7 hK7 => ?_)
        refine AW_region ?_
        all_goals (refine AOps_cons rfl (AOp_assign ?_) <;> try simp only [push_cast, Nat.reduceAdd])
        all_goals refine AOps_nil ?_
        all_goals
         refine thenK_normal (hK7 _ ?_)
         try clear hK7
         refine AW_ret ?_
         repeat (first | refine thenK_ret ?_ | refine loopK_ret ?_ | refine blockK_ret ?_)
         refine ⟨by first | exact .inl rfl | exact .inr rfl, _, rfl, (by first | exact outok_app 0 rfl (Nat.zero_le _) (by simp) | exact outok_self), by simp [push_cast], ?_⟩
         simp only [push_cast, Nat.reduceAdd]
         exact .inl ⟨by simp, by simp, by simp⟩
  · have hne : encP p ≠ [] := fun h => hp (List.eq_nil_of_length_eq_zero (by rw [← hl, h]; rfl))
    have hfl : flat (encP p) ≠ [] := fun h => by
      have := flat_length (uni_encP p)
      rw [h, hl] at this
      have := List.length_pos_iff.2 hp
      simp at *; omega
    have hs1 := scoped_encP (H.length + 1) p
    refine ACall_intro (H.length + 1) Try.func87 rfl ?_
    simp only [Try.ntmps87, List.length_cons, List.length_nil, List.replicate, List.cons_append, List.nil_append, Nat.reduceAdd, Nat.reduceSub, Nat.zero_add]
    refine AW_seq_k (fun K8 hK8 => ?_)
    refine AW_region ?_
    all_goals (refine AOps_cons rfl (AOp_assign ?_) <;> try simp only [push_cast, Nat.reduceAdd])
    all_goals refine AOps_nil ?_
    all_goals
     refine thenK_normal (hK8 _ ?_)
     try clear hK8
     refine AW_seq_k (fun K9 hK9 => ?_)
     refine AW_seq_k (fun K10 hK10 => ?_)
     refine AW_region ?_
     all_goals refine AOps_cons rfl (AOp_move ?_)
     all_goals (try simp only [push_cast, Nat.reduceAdd])
     all_goals refine AOps_cons rfl ?_
     all_goals refine AOp_eql_nil _ _ rfl sl44 (fun nb11 hb11 => ?_)
     all_goals (try simp only [push_cast, Nat.reduceAdd])
     all_goals refine AOps_nil ?_
     all_goals
      refine thenK_normal (hK10 _ ?_)
      try clear hK10
      apply AW_cond
      case' hc => exact rfl
      case' hf =>
       intro hc12
       try (exfalso; (first | (cases hc12; done) | (simp at hc12; done) | (simp at hc12; omega)); done)
       all_goals (try simp only [decide_eq_true_eq, decide_eq_false_iff_not, Bool.not_eq_true', Bool.not_eq_false', Bool.not_eq_eq_eq_not, Bool.not_true, Bool.not_false] at hc12)
       all_goals
        refine AW_skip ?_
        refine thenK_normal (hK9 _ ?_)
        try clear hK9
        refine AW_seq_k (fun K13 hK13 => ?_)
        refine AW_region ?_
        all_goals (refine AOps_cons rfl (AOp_buildSlice0 sl44 sz3 rfl ?_) <;> try simp only [push_cast, Nat.reduceAdd])
        all_goals refine AOps_cons rfl (AOp_move ?_)
        all_goals (try simp only [push_cast, Nat.reduceAdd])
        all_goals (refine AOps_cons rfl (AOp_append_zero _ _ _ rfl rfl sl44 sz3 by3 zr3 rfl (by decide) (uni_encP p) (cell_encP p) hne (by omega) (by omega) ?_) <;> try simp only [push_cast, Nat.reduceAdd])
        all_goals (refine AOps_cons rfl (AOp_assign ?_) <;> try simp only [push_cast, Nat.reduceAdd])
        all_goals refine AOps_nil ?_
        all_goals
         refine thenK_normal (hK13 _ ?_)
         try clear hK13
         refine AW_ret ?_
         repeat (first | refine thenK_ret ?_ | refine loopK_ret ?_ | refine blockK_ret ?_)
         refine ⟨by first | exact .inl rfl | exact .inr rfl, _, rfl, outok_app 1 rfl (by simp) (by intro o ho; simp at ho; subst ho; trivial), by simp [push_cast, strip, stripTok, Scoped, stripL_encP, hs1], ?_⟩
         simp [push_cast, strip, stripTok, stripL_encP, hp, takeAN, hl]
      case' ht =>
       intro hc12
       try (exfalso; (first | (cases hc12; done) | (simp at hc12; done) | (simp at hc12; omega)); done)
       all_goals (try simp only [decide_eq_true_eq, decide_eq_false_iff_not, Bool.not_eq_true', Bool.not_eq_false', Bool.not_eq_eq_eq_not, Bool.not_true, Bool.not_false] at hc12)
       all_goals
        refine AW_seq_k (fun K14 hK14 => ?_)
        refine AW_region ?_
        all_goals (refine AOps_cons rfl (AOp_assign ?_) <;> try simp only [push_cast, Nat.reduceAdd])
        all_goals refine AOps_nil ?_
        all_goals
         refine thenK_normal (hK14 _ ?_)
         try clear hK14
         refine AW_ret ?_
         repeat (first | refine thenK_ret ?_ | refine loopK_ret ?_ | refine blockK_ret ?_)
         exfalso; simp_all
end Ab
set_option maxRecDepth 10000
namespace Ab
open Go Go.Proofs
attribute [local push_cast] scoped_encP encT hsetE0 hsetEN takeE0 takeEN
theorem runTo_all {β : Type} (nx : List β → β → Option Code) : ∀ (ys pre : List β), AllNone nx (pre ++ ys) → runTo nx pre ys = (pre ++ ys, none)
  | [], pre, _ => by simp [runTo]
  | y :: ys, pre, h => by
    have h0 : nx pre y = none := h pre y ys rfl
    simp only [runTo, h0]
    have := runTo_all nx ys (pre ++ [y]) (by simpa using h)
    simpa using this
theorem runTo_mid {β : Type} (nx : List β → β → Option Code) (pre ys zs : List β) (ha : AllNone nx (pre ++ ys)) : runTo nx pre (ys ++ zs) = runTo nx (pre ++ ys) zs := by
  rw [runTo_append, runTo_all nx ys pre ha]
theorem le_foldl_max (f : Term → Nat) : ∀ (xs : List Term) (b : Nat), b ≤ (xs.map f).foldl max b ∧ ∀ x, x ∈ xs → f x ≤ (xs.map f).foldl max b
  | [], b => by simp
  | a :: r, b => by
    obtain ⟨h1, h2⟩ := le_foldl_max f r (max b (f a))
    simp only [List.map_cons, List.foldl_cons]
    refine ⟨by omega, fun x hx => ?_⟩
    rcases List.mem_cons.1 hx with rfl | hx
    · omega
    · exact h2 x hx
def encItem (x : List Int × Term) : List AV := [.sl .none (encP x.1), encT x.2]
theorem walk_ac (id n : Nat) (hp : List (List Int × Term) → Option Code → List AObj) (nx : List (List Int × Term) → List Int × Term → Option Code) (items : List (List Int × Term)) (hid : id < n)
    (hlen : ∀ p j, (hp p j).length = n) (hsc : ∀ p j o, o ∈ hp p j → OScoped n o) (hy : YieldSeq Try.prog id items encItem hp nx) (t : Term) :
    t.bulk ≤ 1099511627775 → ∀ (p : List Int) (pre suf : List (List Int × Term)) (X : List AObj), p.length + t.depth ≤ 1099511627775 → items = pre ++ walkT t p ++ suf → AllNone nx pre →
    ACall Try.prog 74 [encT t, .sl .none (encP p), .yld id] (hp pre none ++ X)
      (fun r H' => r = .bool (runTo nx pre (walkT t p)).2.isNone ∧ H' = hp (runTo nx pre (walkT t p)).1 (runTo nx pre (walkT t p)).2 ++ X) := by
  refine Term.ind (p := fun t => t.bulk ≤ 1099511627775 → ∀ (p : List Int) (pre suf : List (List Int × Term)) (X : List AObj), p.length + t.depth ≤ 1099511627775 → items = pre ++ walkT t p ++ suf → AllNone nx pre →
    ACall Try.prog 74 [encT t, .sl .none (encP p), .yld id] (hp pre none ++ X)
      (fun r H' => r = .bool (runTo nx pre (walkT t p)).2.isNone ∧ H' = hp (runTo nx pre (walkT t p)).1 (runTo nx pre (walkT t p)).2 ++ X)) (fun nm v xs ih => ?_) t
  intro hb p pre suf X hpl hitems hnone
  have hlen2 := Term.len_le (n := nm) (v := v) (xs := xs)
  rw [Term.depth_mk] at hpl
  obtain ⟨G, hG⟩ : ∃ G : List (List Int × Term) → Option Code → List AObj, ∀ q j, G q j = hp q j ++ X := ⟨fun q j => hp q j ++ X, fun _ _ => rfl⟩
  obtain ⟨N, hN⟩ : ∃ N, N = n + X.length := ⟨_, rfl⟩
  have hGl : ∀ q j, (G q j).length = N := fun q j => by rw [hG, hN]; simp [hlen]
  have hy' : ∀ q x s L, items = q ++ x :: s → AllNone nx q → AYield Try.prog id (encItem x) (G q none ++ L) (fun r H' => r = .bool (nx q x).isNone ∧ H' = G (q ++ [x]) (nx q x) ++ L) := fun q x s L h1 h2 => by
    have := hy q x s (X ++ L) h1 h2
    simpa only [hG, List.append_assoc] using this
  have ih' : ∀ x, x ∈ xs → ∀ (p' : List Int) (q s : List (List Int × Term)) (L : List AObj), p'.length + x.depth ≤ 1099511627775 → items = q ++ walkT x p' ++ s → AllNone nx q →
      ACall Try.prog 74 [encT x, .sl .none (encP p'), .yld id] (G q none ++ L) (fun r H' => r = .bool (runTo nx q (walkT x p')).2.isNone ∧ H' = G (runTo nx q (walkT x p')).1 (runTo nx q (walkT x p')).2 ++ L) := fun x hx p' q s L h1 h2 h3 => by
    have hbx := Term.arg_le (n := nm) (v := v) hx
    have := ih x hx (by omega) p' q s (X ++ L) h1 h2 h3
    simpa only [hG, List.append_assoc] using this
  have hout : ∀ q j L, OutOk (G pre none) (G q j ++ L) N := fun q j L => by
    rw [hG, hG]; exact outok_hp 0 (by rw [hlen, hlen]) (fun o ho => by rw [hlen]; exact hsc _ _ o ho) (by simp [hlen, hN]) (Nat.zero_le _) (by simp)
  have hweak : ∀ q j L k slots slots', SlotsOk (N + k) slots slots' → k ≤ L.length → (∀ o, o ∈ L.take k → OScoped (N + k) o) → Weakens (G pre none) ⟨slots, G q j ++ L⟩ ⟨slots', G q j ++ L.take k⟩ := fun q j L k slots slots' h1 h2 h3 => by
    rw [hG, hG]; exact weak_hp k (by rw [hlen, hlen]) (fun o ho => by rw [hlen]; exact hsc _ _ o ho) (by simp [hlen, hN]) h1 h2 h3
  have hidN : id < N := by omega
  have hidN1 : id < N + 1 := by omega
  have hidN0 : id < N + 0 := by omega
  have hidn : ∀ k, id < n + k := fun k => by omega
  have hscp : ∀ m, ScopedL m (encP p) := fun m => scoped_encP m p
  have hwT : walkT (.mk nm v xs) p = (p, .mk nm v xs) :: walkL xs 0 p := rfl
  rw [← hG]
  have hgoal : ∀ (r : AV) (H' : List AObj), (r = .bool (runTo nx pre (walkT (.mk nm v xs) p)).2.isNone ∧ H' = G (runTo nx pre (walkT (.mk nm v xs) p)).1 (runTo nx pre (walkT (.mk nm v xs) p)).2) →
      (r = .bool (runTo nx pre (walkT (.mk nm v xs) p)).2.isNone ∧ H' = hp (runTo nx pre (walkT (.mk nm v xs) p)).1 (runTo nx pre (walkT (.mk nm v xs) p)).2 ++ X) := fun r H' h => by rw [← hG]; exact h
  refine ACall.mono ?_ hgoal
  clear hgoal
  rw [hwT] at hitems ⊢
  have hnx0 : (nx pre (p, .mk nm v xs)).isNone = false → ∃ c, nx pre (p, .mk nm v xs) = some c := fun h => by
    cases hc : nx pre (p, .mk nm v xs) with
    | none => rw [hc] at h; cases h
    | some c => exact ⟨c, rfl⟩
  simp only [encT, Term.name, Term.var, Term.args]
  refine ACall_intro (N) Try.func74 rfl ?_
  simp only [Try.ntmps74, List.length_cons, List.length_nil, List.replicate, List.cons_append, List.nil_append, Nat.reduceAdd, Nat.reduceSub, Nat.zero_add]
  refine AW_seq_k (fun K1 hK1 => ?_)
  refine AW_region ?_
  all_goals (refine AOps_cons rfl (AOp_box _ _ rfl rfl (by first | exact .inl rfl | exact .inr ⟨_, rfl⟩) (by simp [push_cast, AV.isCell]) ?_) <;> try simp only [push_cast, hGl, Nat.reduceAdd])
  all_goals (refine AOps_cons rfl (AOp_assign ?_) <;> try simp only [push_cast, hGl, Nat.reduceAdd])
  all_goals refine AOps_nil ?_
  all_goals
   refine thenK_normal (hK1 _ ?_)
   try clear hK1
   refine AW_seq_k (fun K2 hK2 => ?_)
   refine AW_seq_k (fun K3 hK3 => ?_)
   refine AW_region ?_
   all_goals refine AOps_cons rfl (AOp_move ?_)
   all_goals refine AOps_cons rfl (AOp_move ?_)
   all_goals (try simp only [push_cast, hGl, Nat.reduceAdd])
   all_goals (refine AOps_cons rfl (AOp_load_ptr _ _ _ _ rfl (by first | exact hget0 | exact hgetN _ rfl | assumption | exact hgetL (by assumption) | exact hgetE (by first | assumption | apply hGl) | exact hgetEN (by first | assumption | apply hGl) _ rfl) sz27 ag27 (by simp [push_cast]) ?_) <;> try simp only [push_cast, hGl, Nat.reduceAdd])
   all_goals refine AOps_cons rfl (AOp_yield _ _ rfl rfl ?_)
   all_goals simp only [push_cast, hGl]
   all_goals refine (hy' pre (p, .mk nm v xs) _ _ (by simpa using hitems) hnone).mono ?_
   all_goals rintro r H' ⟨rfl, rfl⟩
   all_goals (try simp only [push_cast, hGl, Nat.reduceAdd])
   all_goals (refine AOps_cons rfl (AOp_not _ rfl ?_) <;> try simp only [push_cast, hGl, Nat.reduceAdd])
   all_goals refine AOps_nil ?_
   all_goals
    refine thenK_normal (hK3 _ ?_)
    try clear hK3
    apply AW_cond
    case' hc => exact rfl
    case' hf =>
     intro hc4
     try (exfalso; (first | (cases hc4; done) | (simp at hc4; done) | (simp at hc4; omega)); done)
     all_goals (try simp only [decide_eq_true_eq, decide_eq_false_iff_not, Bool.not_eq_true', Bool.not_eq_false', Bool.not_eq_eq_eq_not, Bool.not_true, Bool.not_false] at hc4)
     all_goals
      refine AW_skip ?_
      refine thenK_normal (hK2 _ ?_)
      try clear hK2
      refine AW_seq_k (fun K5 hK5 => ?_)
      refine AW_seq_k (fun K6 hK6 => ?_)
      refine AW_region ?_
      all_goals (refine AOps_cons rfl (AOp_fieldAddr_ptr _ _ _ _ rfl fd27_2 (by decide) ?_) <;> try simp only [push_cast, hGl, Nat.reduceAdd])
      all_goals (refine AOps_cons rfl (AOp_load1_ptr _ _ _ _ _ rfl (by first | exact hget0 | exact hgetN _ rfl | assumption | exact hgetL (by assumption) | exact hgetE (by first | assumption | apply hGl) | exact hgetEN (by first | assumption | apply hGl) _ rfl) sz25 ag25 (by decide) (by simp [push_cast]) rfl ?_) <;> try simp only [push_cast, hGl, Nat.reduceAdd])
      all_goals (refine AOps_cons rfl (AOp_len_sl _ _ _ rfl sl25 ?_) <;> try simp only [push_cast, hGl, Nat.reduceAdd])
      all_goals (refine AOps_cons rfl (AOp_move ?_) <;> try simp only [push_cast, hGl, Nat.reduceAdd])
      all_goals refine AOps_nil ?_
      all_goals
       refine thenK_normal (hK6 _ ?_)
       try clear hK6
       refine AW_block ?_
       have hn0 : nx pre (p, .mk nm v xs) = none := by simpa using ‹(nx pre (p, Term.mk nm v xs)).isNone = true›
       have hq0 : G (pre ++ [(p, .mk nm v xs)]) (nx pre (p, .mk nm v xs)) = G (pre ++ (p, .mk nm v xs) :: walkL (xs.take 0) 0 p) none := by rw [hn0]; simp [walkL]
       rw [hq0]
       have hi0 : AllNone nx (pre ++ (p, .mk nm v xs) :: walkL (xs.take 0) 0 p) := by
         have := hnone.snoc (x := (p, Term.mk nm v xs)) hn0
         simpa [walkL] using this
       refine AW_loopR (maskG 32 [1, 0, 12, 0, 0]) (fun (i : Nat) => [(17, .int .i64 i)]) (fun i => G (pre ++ (p, .mk nm v xs) :: walkL (xs.take i) 0 p) none ++ [.cells [.str nm, .bool v, .sl .none (encTs xs)]]) (fun i => i ≤ xs.length ∧ AllNone nx (pre ++ (p, .mk nm v xs) :: walkL (xs.take i) 0 p)) (fun i => xs.length - i) 0 ⟨Nat.zero_le _, hi0⟩ (by simp only [push_cast, hGl, Nat.reduceAdd]; refine hweak _ _ [_] 1 _ _ ?_ (by simp) (by simp [push_cast, OScoped, Scoped, ScopedL]); (repeat (first | exact SlotsOk.nil | refine SlotsOk.junk ?_ | refine SlotsOk.same (by first | (simp [push_cast]; done) | (simp [push_cast, Scoped, ScopedL, *]; done)) ?_ | refine SlotsOk.tok (by first | rfl | (simp; done)) (by first | (simp [push_cast]; done) | (simp [push_cast, Scoped, ScopedL, *]; done)) ?_ | refine SlotsOk.eq (by first | rfl | (congr 1; omega) | (simp; done) | (simp; omega)) (by first | (simp [push_cast]; done) | (simp [push_cast, Scoped, ScopedL, *]; done)) ?_))) (fun i hi => ?_)
       (try simp only [push_cast, hGl, Nat.reduceAdd])
       refine AW_seq_k (fun K7 hK7 => ?_)
       refine AW_region ?_
       all_goals (refine AOps_cons rfl (AOp_bin_int _ _ _ _ rfl rfl rfl ?_) <;> try simp only [push_cast, hGl, Nat.reduceAdd])
       all_goals refine AOps_nil ?_
       all_goals
        refine thenK_normal (hK7 _ ?_)
        try clear hK7
        refine AW_seq_k (fun K8 hK8 => ?_)
        apply AW_cond
        case' hc => exact rfl
        case' hf =>
         intro hc9
         try (exfalso; (first | (cases hc9; done) | (simp at hc9; done) | (simp at hc9; omega)); done)
         all_goals (try simp only [decide_eq_true_eq, decide_eq_false_iff_not, Bool.not_eq_true', Bool.not_eq_false', Bool.not_eq_eq_eq_not, Bool.not_true, Bool.not_false] at hc9)
         all_goals
          refine AW_exit ?_
          repeat (first | refine thenK_exit ?_ | refine loopK_exit ?_ | refine blockK_other (by decide) ?_)
          refine blockK_same ?_
          refine thenK_normal (hK5 _ ?_)
          try clear hK5
          refine AW_seq_k (fun K10 hK10 => ?_)
          refine AW_region ?_
          all_goals (refine AOps_cons rfl (AOp_assign ?_) <;> try simp only [push_cast, hGl, Nat.reduceAdd])
          all_goals refine AOps_nil ?_
          all_goals
           refine thenK_normal (hK10 _ ?_)
           try clear hK10
           refine AW_ret ?_
           repeat (first | refine thenK_ret ?_ | refine loopK_ret ?_ | refine blockK_ret ?_)
           have hs : xs.take i = xs := List.take_of_length_le (by omega)
           rw [hs] at hi ⊢
           have e := runTo_all nx _ _ hi.2
           refine ⟨by first | exact .inl rfl | exact .inr rfl, _, rfl, hout _ _ _, by simp [push_cast], ?_⟩
           rw [e]; simp only [push_cast, hGl]; simp
        case' ht =>
         intro hc9
         try (exfalso; (first | (cases hc9; done) | (simp at hc9; done) | (simp at hc9; omega)); done)
         all_goals (try simp only [decide_eq_true_eq, decide_eq_false_iff_not, Bool.not_eq_true', Bool.not_eq_false', Bool.not_eq_eq_eq_not, Bool.not_true, Bool.not_false] at hc9)
         all_goals
          refine AW_skip ?_
          refine thenK_normal (hK8 _ ?_)
          try clear hK8
          refine AW_seq_k (fun K11 hK11 => ?_)
          refine AW_block ?_
          refine AW_seq_k (fun K12 hK12 => ?_)
          refine AW_region ?_
          all_goals refine AOps_cons rfl (AOp_move ?_)
          all_goals (try simp only [push_cast, hGl, Nat.reduceAdd])
          all_goals (refine AOps_cons rfl (AOp_indexAddr_sl 27 _ _ _ _ _ rfl rfl sl25 sz27 (by decide) (by exact uni_encTs _) (by first | omega | (simp; omega)) (by first | omega | (simp [push_cast]; omega) | (simp [push_cast]; done)) ?_) <;> try simp only [push_cast, hGl, Nat.reduceAdd])
          all_goals (refine AOps_cons rfl (AOp_load_cptr _ _ rfl sz27 ag27 (by simp [push_cast]) ?_) <;> try simp only [push_cast, hGl, Nat.reduceAdd])
          all_goals (refine AOps_cons rfl (AOp_alloc _ zr27 (by simp [ofVal, AV.isCell, Value.oneCell']) ?_) <;> try simp only [push_cast, hGl, Nat.reduceAdd])
          all_goals refine AOps_cons rfl (AOp_assign ?_)
          all_goals (try simp only [push_cast, hGl, Nat.reduceAdd])
          all_goals (refine AOps_cons rfl (AOp_store _ _ _ _ _ rfl (by first | exact hget0 | exact hgetN _ rfl | assumption | exact hgetL (by assumption) | exact hgetE (by first | assumption | apply hGl) | exact hgetEN (by first | assumption | apply hGl) _ rfl) rfl rfl (by first | exact .inl rfl | exact .inr ⟨_, rfl⟩) (by simp [push_cast, AV.isCell]) sz27 (by simp [push_cast]) ?_) <;> try simp only [push_cast, hGl, Nat.reduceAdd])
          all_goals refine AOps_nil ?_
          all_goals
           refine thenK_normal (hK12 _ ?_)
           try clear hK12
           refine AW_seq_k (fun K13 hK13 => ?_)
           have hil : i < xs.length := by omega
           have hmem : xs[i] ∈ xs := by simp
           have hdx := (le_foldl_max Term.depth xs 0).2 _ hmem
           have hit : items = (pre ++ (p, Term.mk nm v xs) :: walkL (xs.take i) 0 p) ++ walkT xs[i] (p ++ [(i : Int)]) ++ (walkL (xs.drop (i + 1)) (0 + (i : Int) + 1) p ++ suf) := by
             rw [hitems, walkL_split xs i 0 p (by omega), List.drop_eq_getElem_cons hil, walkL_cons]; simp
           obtain ⟨⟨q, j⟩, hr⟩ : ∃ y, runTo nx (pre ++ (p, Term.mk nm v xs) :: walkL (xs.take i) 0 p) (walkT xs[i] (p ++ [(i : Int)])) = y := ⟨_, rfl⟩
           by_cases hp0 : p = []
           all_goals
             apply AW_drawE [some 22, some 23, some 24, some 25, some 26, some 27, some 28, some 29, some 30] [([false, false, false], _), ([true, false, false], _), ([true, true, false], _), ([true, true, true], _)] [none, none, some 0, none, none, some 1, none, some 2, none] 3 [(0, [false, false, false], [8]), (1, [false, false, false], [1]), (2, [false, false, false], [23]), (3, [true, false, false], [7]), (4, [true, false, false], [25]), (5, [true, false, false], [24, 1]), (6, [true, true, false], [2]), (7, [true, true, false], [22, 4, 0]), (8, [true, true, true], [29]), (0, [true, false, false], [8]), (0, [true, true, false], [8]), (3, [false, false, false], [7]), (3, [true, true, false], [7]), (3, [true, true, true], [7]), (4, [false, false, false], [25]), (6, [false, false, false], [2]), (6, [true, false, false], [2])] [_, _, _, _, _, _, _, _, _]
             case' hm => exact dr
             case' hn => rfl
             case' hok => rfl
             case' hlen => rfl
             case' hd => rfl
             case' h0 => rfl
             case' hstep =>
              simp only [DAllG, keepG, List.map_cons, List.map_nil, putD, stg, beqB, List.set_cons_zero, List.set_cons_succ, List.getD_cons_zero, List.getD_cons_succ, Option.isSome_some, Option.isSome_none]
              apply And.intro
              · apply DOne_do
                case' ho => rfl
                case' hw => rfl
                refine AOp_load_ptr _ _ _ _ rfl (by first | exact hget0 | exact hgetN _ rfl | assumption | exact hgetL (by assumption) | exact hgetE (by first | assumption | apply hGl) | exact hgetEN (by first | assumption | apply hGl) _ rfl) sz27 ag27 (by simp [push_cast]) ?_
                all_goals (try simp only [push_cast, hGl, Nat.reduceAdd])
                all_goals (constructor <;> first | rfl | trivial)
              apply And.intro
              · apply DOne_do
                case' ho => rfl
                case' hw => rfl
                refine AOp_move ?_
                all_goals (try simp only [push_cast, hGl, Nat.reduceAdd])
                all_goals (constructor <;> first | rfl | trivial)
              apply And.intro
              · apply DOne_do
                case' ho => rfl
                case' hw => rfl
                refine AOp_call _ _ _ rfl rfl ok87 ?_
                (try simp only [push_cast, hGl, Nat.reduceAdd])
                refine (clone_ac p (by omega) _).mono ?_
                rintro r H' (⟨hcl, rfl, rfl⟩ | ⟨hcl, rfl, rfl⟩)
                all_goals first | exact absurd hcl hp0 | exact absurd hp0 hcl | skip
                all_goals (try simp only [push_cast, hGl, Nat.reduceAdd])
                all_goals (constructor <;> first | rfl | trivial)
              apply And.intro
              · apply DOne_do
                case' ho => rfl
                case' hw => rfl
                refine AOp_move ?_
                all_goals (try simp only [push_cast, hGl, Nat.reduceAdd])
                all_goals (constructor <;> first | rfl | trivial)
              apply And.intro
              · apply DOne_do
                case' ho => rfl
                case' hw => rfl
                refine AOp_buildRow _ [_] sl44 sz3 zr3 rfl rfl (by simp [AV.cells, AV.isCell, AV.isAgg, push_cast]) (by decide) rfl ?_
                all_goals (try simp only [push_cast, hGl, Nat.reduceAdd])
                all_goals (constructor <;> first | rfl | trivial)
              apply And.intro
              · apply DOne_do
                case' ho => rfl
                case' hw => rfl
                first | refine AOp_append_own _ _ _ _ _ rfl rfl (by rw [encL_length]; exact hgetEN (by apply hGl) _ rfl) sl44 sz3 by3 zr3 rfl (by decide) (uni_encP p) (by intro x hx; simp at hx; subst hx; rfl) (by simp [flat, AV.cells, AV.isCell]) (by simp only [encL_length, List.length_cons, List.length_nil]; omega) (by simp only [encL_length, List.length_cons, List.length_nil]; omega) ?_ | refine AOp_append_zero _ _ _ rfl rfl sl44 sz3 by3 zr3 rfl (by decide) (by intro x hx; simp at hx; subst hx; rfl) (by simp [flat, AV.cells, AV.isCell]) (by simp) (by simp) (by simp) ?_
                all_goals (try simp only [push_cast, hGl, Nat.reduceAdd])
                all_goals (constructor <;> first | rfl | trivial)
              apply And.intro
              · apply DOne_do
                case' ho => rfl
                case' hw => rfl
                refine AOp_move ?_
                all_goals (try simp only [push_cast, hGl, Nat.reduceAdd])
                all_goals (constructor <;> first | rfl | trivial)
              apply And.intro
              · apply DOne_do
                case' ho => rfl
                case' hw => rfl
                refine AOp_call _ _ _ rfl rfl ok74 ?_
                (try simp only [push_cast, hGl, Nat.reduceAdd])
                refine ACall.forget (args' := [encT xs[i], .sl .none (encP (p ++ [(i : Int)])), .yld id]) ⟨Forget.refl _, by first | (rw [← encP_snoc]; exact Forget.tok _ _) | (have he : encP (p ++ [(i : Int)]) = [.int .i64 i] := (by rw [hp0]; rfl); rw [he]; exact Forget.tok _ _), Forget.refl _, trivial⟩ ?_
                refine (ih' xs[i] hmem (p ++ [(i : Int)]) _ _ _ (by simp; omega) hit hi.2).mono ?_
                rintro r H' ⟨rfl, rfl⟩
                simp only [hr]
                all_goals (try simp only [push_cast, hGl, Nat.reduceAdd])
                all_goals (constructor <;> first | rfl | trivial)
              apply And.intro
              · apply DOne_do
                case' ho => rfl
                case' hw => rfl
                refine AOp_not _ rfl ?_
                all_goals (try simp only [push_cast, hGl, Nat.reduceAdd])
                all_goals (constructor <;> first | rfl | trivial)
              apply And.intro
              · apply DOne_do
                case' ho => rfl
                case' hw => rfl
                refine AOp_load_ptr _ _ _ _ rfl (by first | exact hget0 | exact hgetN _ rfl | assumption | exact hgetL (by assumption) | exact hgetE (by first | assumption | apply hGl) | exact hgetEN (by first | assumption | apply hGl) _ rfl) sz27 ag27 (by simp [push_cast]) ?_
                all_goals (try simp only [push_cast, hGl, Nat.reduceAdd])
                all_goals (constructor <;> first | rfl | trivial)
              apply And.intro
              · apply DOne_do
                case' ho => rfl
                case' hw => rfl
                refine AOp_load_ptr _ _ _ _ rfl (by first | exact hget0 | exact hgetN _ rfl | assumption | exact hgetL (by assumption) | exact hgetE (by first | assumption | apply hGl) | exact hgetEN (by first | assumption | apply hGl) _ rfl) sz27 ag27 (by simp [push_cast]) ?_
                all_goals (try simp only [push_cast, hGl, Nat.reduceAdd])
                all_goals (constructor <;> first | rfl | trivial)
              apply And.intro
              · apply DOne_do
                case' ho => rfl
                case' hw => rfl
                refine AOp_move ?_
                all_goals (try simp only [push_cast, hGl, Nat.reduceAdd])
                all_goals (constructor <;> first | rfl | trivial)
              apply And.intro
              · apply DOne_do
                case' ho => rfl
                case' hw => rfl
                refine AOp_move ?_
                all_goals (try simp only [push_cast, hGl, Nat.reduceAdd])
                all_goals (constructor <;> first | rfl | trivial)
              apply And.intro
              · apply DOne_do
                case' ho => rfl
                case' hw => rfl
                refine AOp_move ?_
                all_goals (try simp only [push_cast, hGl, Nat.reduceAdd])
                all_goals (constructor <;> first | rfl | trivial)
              apply And.intro
              · apply DOne_do
                case' ho => rfl
                case' hw => rfl
                refine AOp_buildRow _ [_] sl44 sz3 zr3 rfl rfl (by simp [AV.cells, AV.isCell, AV.isAgg, push_cast]) (by decide) rfl ?_
                all_goals (try simp only [push_cast, hGl, Nat.reduceAdd])
                all_goals (constructor <;> first | rfl | trivial)
              apply And.intro
              · apply DOne_do
                case' ho => rfl
                case' hw => rfl
                refine AOp_move ?_
                all_goals (try simp only [push_cast, hGl, Nat.reduceAdd])
                all_goals (constructor <;> first | rfl | trivial)
              apply And.intro
              · apply DOne_do
                case' ho => rfl
                case' hw => rfl
                refine AOp_move ?_
                all_goals (try simp only [push_cast, hGl, Nat.reduceAdd])
                all_goals (constructor <;> first | rfl | trivial)
              exact trivial
             case' hQ => skip
             (try simp only [push_cast, putD, stg, beqB, List.replicate, Nat.reduceAdd, List.getD_cons_zero, List.getD_cons_succ])
           all_goals
            refine thenK_normal (hK13 _ ?_)
            try clear hK13
            apply AW_cond
            case' hc => exact rfl
            case' hf =>
             intro hc14
             try (exfalso; (first | (cases hc14; done) | (simp at hc14; done) | (simp at hc14; omega)); done)
             all_goals (try simp only [decide_eq_true_eq, decide_eq_false_iff_not, Bool.not_eq_true', Bool.not_eq_false', Bool.not_eq_eq_eq_not, Bool.not_true, Bool.not_false] at hc14)
             all_goals
              refine AW_skip ?_
              refine blockK_normal ?_
              refine thenK_normal (hK11 _ ?_)
              try clear hK11
              refine AW_region ?_
              all_goals refine AOps_cons rfl (AOp_bin_int _ _ _ _ rfl rfl rfl ?_)
              all_goals (try simp only [push_cast, hGl, Nat.reduceAdd])
              all_goals (try rw [IntWalk.i64_in _ (by omega)])
              all_goals (try simp only [push_cast, hGl, Nat.reduceAdd])
              all_goals (refine AOps_cons rfl (AOp_move ?_) <;> try simp only [push_cast, hGl, Nat.reduceAdd])
              all_goals refine AOps_nil ?_
              all_goals
               refine loopK_normal ?_
               have hj : j = none := by simpa using ‹j.isNone = true›
               have hq := runTo_none nx (walkT (xs[i]'(by omega)) (p ++ [(i : Int)])) _ hi.2 (by rw [hr]; exact hj)
               rw [hr] at hq
               have hpre : pre ++ (p, Term.mk nm v xs) :: walkL (xs.take i) 0 p ++ walkT (xs[i]'(by omega)) (p ++ [(i : Int)]) = pre ++ (p, Term.mk nm v xs) :: walkL (xs.take (i + 1)) 0 p := by rw [walkL_take _ _ _ (by omega)]; simp
               rw [hpre] at hq
               obtain ⟨hq1, hq2⟩ := hq
               simp only at hq1
               subst hj
               subst hq1
               refine ⟨i + 1, ⟨by omega, hq2⟩, ?_, by omega⟩
               simp only [push_cast, hGl, Nat.reduceAdd]
               refine hweak _ _ [_, _, _] 1 _ _ ?_ (by simp) (by simp [push_cast, OScoped, Scoped, ScopedL])
               (repeat (first | exact SlotsOk.nil | refine SlotsOk.junk ?_ | refine SlotsOk.same (by first | (simp [push_cast]; done) | (simp [push_cast, Scoped, ScopedL, *]; done)) ?_ | refine SlotsOk.tok (by first | rfl | (simp; done)) (by first | (simp [push_cast]; done) | (simp [push_cast, Scoped, ScopedL, *]; done)) ?_ | refine SlotsOk.eq (by first | rfl | (congr 1; omega) | (simp; done) | (simp; omega)) (by first | (simp [push_cast]; done) | (simp [push_cast, Scoped, ScopedL, *]; done)) ?_))
            case' ht =>
             intro hc14
             try (exfalso; (first | (cases hc14; done) | (simp at hc14; done) | (simp at hc14; omega)); done)
             all_goals (try simp only [decide_eq_true_eq, decide_eq_false_iff_not, Bool.not_eq_true', Bool.not_eq_false', Bool.not_eq_eq_eq_not, Bool.not_true, Bool.not_false] at hc14)
             all_goals
              refine AW_seq_k (fun K15 hK15 => ?_)
              refine AW_region ?_
              all_goals (refine AOps_cons rfl (AOp_assign ?_) <;> try simp only [push_cast, hGl, Nat.reduceAdd])
              all_goals refine AOps_nil ?_
              all_goals
               refine thenK_normal (hK15 _ ?_)
               try clear hK15
               refine AW_ret ?_
               repeat (first | refine thenK_ret ?_ | refine loopK_ret ?_ | refine blockK_ret ?_)
               obtain ⟨c, hj⟩ : ∃ c, j = some c := by
                 cases j with
                 | none => simp_all
                 | some c => exact ⟨c, rfl⟩
               subst hj
               have e : runTo nx pre ((p, Term.mk nm v xs) :: walkL xs 0 p) = (q, some c) := by
                 rw [walkL_split xs i 0 p (by omega), List.drop_eq_getElem_cons (by omega), walkL_cons, ← List.cons_append, runTo_mid nx _ _ _ hi.2, runTo_append, Int.zero_add, hr]
               refine ⟨by first | exact .inl rfl | exact .inr rfl, _, rfl, hout _ _ _, by simp [push_cast], ?_⟩
               rw [e]; simp only [push_cast, hGl]; simp
    case' ht =>
     intro hc4
     try (exfalso; (first | (cases hc4; done) | (simp at hc4; done) | (simp at hc4; omega)); done)
     all_goals (try simp only [decide_eq_true_eq, decide_eq_false_iff_not, Bool.not_eq_true', Bool.not_eq_false', Bool.not_eq_eq_eq_not, Bool.not_true, Bool.not_false] at hc4)
     all_goals
      refine AW_seq_k (fun K16 hK16 => ?_)
      refine AW_region ?_
      all_goals (refine AOps_cons rfl (AOp_assign ?_) <;> try simp only [push_cast, hGl, Nat.reduceAdd])
      all_goals refine AOps_nil ?_
      all_goals
       refine thenK_normal (hK16 _ ?_)
       try clear hK16
       refine AW_ret ?_
       repeat (first | refine thenK_ret ?_ | refine loopK_ret ?_ | refine blockK_ret ?_)
       obtain ⟨c, hc0⟩ := hnx0 (by assumption)
       have e : runTo nx pre ((p, Term.mk nm v xs) :: walkL xs 0 p) = (pre ++ [(p, Term.mk nm v xs)], some c) := by simp [runTo, hc0]
       refine ⟨by first | exact .inl rfl | exact .inr rfl, _, rfl, hout _ _ _, by simp [push_cast], ?_⟩
       rw [e]; simp only [push_cast, hGl, hc0]; simp
end Ab
set_option maxRecDepth 10000
namespace Ab
open Go Go.Proofs
attribute [local push_cast] scoped_encP encT
theorem iterOut_runTo {β : Type} (nx : List β → β → Option Code) (items : List β) (hp : List β → Option Code → List AObj) : IterOut items nx hp (hp (runTo nx [] items).1 (runTo nx [] items).2) := by
  cases hr : (runTo nx [] items).2 with
  | none =>
    obtain ⟨h1, h2⟩ := runTo_none nx items [] AllNone.nil hr
    rw [h1]; exact .inl ⟨by simpa using h2, by simp⟩
  | some c =>
    obtain ⟨a, x, s, e1, e2, e3, e4⟩ := runTo_some nx items [] c AllNone.nil hr
    rw [e4]
    exact .inr ⟨a, x, s, c, e1, by simpa using e2, by simpa using e3, by simp⟩
theorem walk_iter (t : Term) (hb : t.bulk ≤ 1099511627775) (b : Nat) : IterC Try.prog 73 [.ptr b 0] (walkT t []) encItem (fun H => H[b]? = some (.cells [.str t.name, .bool t.var, .sl .none (encTs t.args)])) := by
  intro id n hp nx hid hlen hsc hA hy
  obtain ⟨H, hH⟩ : ∃ H, H = hp [] none := ⟨_, rfl⟩
  rw [← hH] at hA ⊢
  have hd := t.depth_le
  have hsz := t.size_le
  have hout : ∀ q j, OutOk H (hp q j) n := fun q j => by
    have := outok_hp (A := hp [] none) (B := hp q j) (X := []) (L := []) (m := n) 0 (by rw [hlen, hlen]) (fun o ho => by rw [hlen]; exact hsc _ _ o ho) (by simp [hlen]) (Nat.zero_le _) (by simp)
    simpa [hH] using this
  refine ACall_intro (n) Try.func73 rfl ?_
  simp only [Try.ntmps73, List.length_cons, List.length_nil, List.replicate, List.cons_append, List.nil_append, Nat.reduceAdd, Nat.reduceSub, Nat.zero_add]
  refine AW_region ?_
  all_goals refine AOps_cons rfl ?_
  all_goals first | refine AOp_load_ptr _ _ _ _ rfl (by first | exact hget0 | exact hgetN _ rfl | assumption | exact hgetL (by assumption)) sz27 ag27 (by simp [push_cast]) ?_ | refine AOp_load_cptr _ _ rfl sz27 ag27 (by simp [push_cast]) ?_
  all_goals (try simp only [push_cast, Nat.reduceAdd])
  all_goals refine AOps_cons rfl (AOp_move ?_)
  all_goals (try simp only [push_cast, Nat.reduceAdd])
  all_goals refine AOps_cons rfl (AOp_call _ _ _ rfl rfl ok74 ?_)
  all_goals (try simp only [push_cast, Nat.reduceAdd])
  all_goals refine ACall.forget (args' := [encT t, .sl .none (encP []), .yld id]) ⟨Forget.refl _, Forget.tok _ _, Forget.refl _, trivial⟩ ?_
  all_goals have hw := walk_ac id n hp nx (walkT t []) hid hlen hsc hy t hb [] [] [] [] (by simp; omega) (by simp) AllNone.nil
  all_goals simp only [List.append_nil, ← hH] at hw
  all_goals refine hw.mono ?_
  all_goals rintro r H' ⟨rfl, rfl⟩
  all_goals (try simp only [push_cast, Nat.reduceAdd])
  all_goals refine AOps_nil ?_
  all_goals
   refine ⟨by first | exact .inl rfl | exact .inr rfl, _, rfl, hout _ _, by simp [push_cast, strip, stripL, Scoped, ScopedL], ?_⟩
   rw [List.take_of_length_le (by rw [hlen]; exact Nat.le_refl _)]
   exact iterOut_runTo nx _ hp
theorem walkF_ac (t : Term) (H : List AObj) : ACall Try.prog 54 [encT t] H (fun r H' => r = .fn 73 [.ptr H.length 0] ∧ H' = H ++ [.cells [.str t.name, .bool t.var, .sl .none (encTs t.args)]]) := by
  refine ACall_intro (H.length + 1) Try.func54 rfl ?_
  simp only [Try.ntmps54, List.length_cons, List.length_nil, List.replicate, List.cons_append, List.nil_append, Nat.reduceAdd, Nat.reduceSub, Nat.zero_add]
  refine AW_seq_k (fun K1 hK1 => ?_)
  refine AW_region ?_
  all_goals (refine AOps_cons rfl (AOp_box _ _ rfl rfl (by first | exact .inl rfl | exact .inr ⟨_, rfl⟩) (by simp [push_cast, AV.isCell]) ?_) <;> try simp only [push_cast, Nat.reduceAdd])
  all_goals (refine AOps_cons rfl (AOp_assign ?_) <;> try simp only [push_cast, Nat.reduceAdd])
  all_goals refine AOps_nil ?_
  all_goals
   refine thenK_normal (hK1 _ ?_)
   try clear hK1
   refine AW_seq_k (fun K2 hK2 => ?_)
   refine AW_region ?_
   all_goals refine AOps_cons rfl (AOp_makeFunc ?_)
   all_goals (refine AOps_cons rfl (AOp_assign ?_) <;> try simp only [push_cast, Nat.reduceAdd])
   all_goals refine AOps_nil ?_
   all_goals
    refine thenK_normal (hK2 _ ?_)
    try clear hK2
    refine AW_ret ?_
    repeat (first | refine thenK_ret ?_ | refine loopK_ret ?_ | refine blockK_ret ?_)
    refine ⟨by first | exact .inl rfl | exact .inr rfl, _, rfl, outok_app 1 rfl (by simp) (by intro o ho; simp at ho; subst ho; simp [OScoped, ScopedL, Scoped, scoped_encTs]), by simp [push_cast, strip, stripL, Scoped, ScopedL], ?_⟩
    simp only [push_cast]
    simp [strip, stripL]
end Ab
set_option maxRecDepth 10000
namespace Ab
open Go Go.Proofs
attribute [local push_cast] scoped_encP encT encItem
def countStep (m : List (List UInt8 × Int)) (x : List Int × Term) : List (List UInt8 × Int) :=
  if x.2.var then aset m x.2.name ((aget m x.2.name).getD 0 + 1) else m
def countM (l : List (List Int × Term)) : List (List UInt8 × Int) := l.foldl countStep []
def countV (l : List (List Int × Term)) : Nat := (l.filter fun x => x.2.var).length
theorem countM_snoc (l : List (List Int × Term)) (x : List Int × Term) : countM (l ++ [x]) = countStep (countM l) x := by simp [countM]
theorem countV_snoc (l : List (List Int × Term)) (x : List Int × Term) : countV (l ++ [x]) = countV l + if x.2.var then 1 else 0 := by
  simp only [countV, List.filter_append, List.length_append]
  cases h : x.2.var <;> simp [h]
theorem aget_aset {κ α : Type} [DecidableEq κ] : ∀ (m : List (κ × α)) (k k' : κ) (v : α), aget (aset m k v) k' = if k = k' then some v else aget m k'
  | [], k, k', v => by simp [aset, aget]
  | p :: m, k, k', v => by
    by_cases h : p.1 = k
    · subst h; by_cases h2 : p.1 = k' <;> simp [aset, aget, h2]
    · simp only [aset, h, if_false, aget]
      rw [aget_aset m k k' v]
      by_cases h2 : p.1 = k'
      · subst h2; simp [Ne.symm h]
      · simp [h2]
theorem countM_bound : ∀ (l : List (List Int × Term)) (k : List UInt8), 0 ≤ (aget (countM l) k).getD 0 ∧ (aget (countM l) k).getD 0 ≤ l.length := by
  intro l
  obtain ⟨r, rfl⟩ : ∃ r, l = r.reverse := ⟨l.reverse, by simp⟩
  induction r with
  | nil => intro k; simp [countM, aget]
  | cons x r ih =>
    intro k
    rw [List.reverse_cons, countM_snoc]
    unfold countStep
    have h1 := ih k
    have h2 := ih x.2.name
    split
    · rw [aget_aset]
      split
      · simp; simp at h2; omega
      · simp; simp at h1; omega
    · simp; simp at h1; omega
theorem walkL_length : ∀ (xs : List Term) (i : Int) (p : List Int), (walkL xs i p).length = (xs.map Term.size).sum
  | [], _, _ => by simp [walkL]
  | .mk n v ys :: r, i, p => by
    have h1 := walkL_length ys 0 (p ++ [i])
    have h2 := walkL_length r (i + 1) p
    simp [walkL, h1, h2, Term.size]; omega
theorem walkT_length (t : Term) (p : List Int) : (walkT t p).length = t.size := by
  cases t with
  | mk n v xs => simp [walkT, walkL_length, Term.args, Term.size]; omega
@[reducible] def encC (m : List (List UInt8 × Int)) : List (AV × AV) := amap AV.str (AV.int .i64) m
theorem counts_ac (t : Term) (hb : t.bulk ≤ 1099511627775) (H : List AObj) : ACall Try.prog 55 [encT t] H
    (fun r H' => r = .map (H.length + 1) ∧ ∃ ver, H' = H ++ [.cells [.str t.name, .bool t.var, .sl .none (encTs t.args)], .map ver (encC (countM (walkT t [])))]) := by
  have hsz := t.size_le
  have hwl := walkT_length t []
  refine ACall_intro (H.length + 2) Try.func55 rfl ?_
  simp only [Try.ntmps55, List.length_cons, List.length_nil, List.replicate, List.cons_append, List.nil_append, Nat.reduceAdd, Nat.reduceSub, Nat.zero_add]
  refine AW_seq_k (fun K1 hK1 => ?_)
  refine AW_region ?_
  all_goals (refine AOps_cons rfl (AOp_box _ _ rfl rfl (by first | exact .inl rfl | exact .inr ⟨_, rfl⟩) (by simp [push_cast, AV.isCell]) ?_) <;> try simp only [push_cast, Nat.reduceAdd])
  all_goals (refine AOps_cons rfl (AOp_assign ?_) <;> try simp only [push_cast, Nat.reduceAdd])
  all_goals refine AOps_nil ?_
  all_goals
   refine thenK_normal (hK1 _ ?_)
   try clear hK1
   refine AW_seq_k (fun K2 hK2 => ?_)
   refine AW_region ?_
   all_goals (refine AOps_cons rfl (AOp_makeMap ?_) <;> try simp only [push_cast, Nat.reduceAdd])
   all_goals (refine AOps_cons rfl (AOp_alloc _ zr88 (by simp [ofVal, AV.isCell, Value.oneCell']) ?_) <;> try simp only [push_cast, Nat.reduceAdd])
   all_goals (refine AOps_cons rfl (AOp_store _ _ _ _ _ rfl (by first | exact hget0 | exact hgetN _ rfl | assumption | exact hgetL (by assumption) | exact hgetE (by first | assumption | apply hGl) | exact hgetEN (by first | assumption | apply hGl) _ rfl) rfl rfl (by first | exact .inl rfl | exact .inr ⟨_, rfl⟩) (by simp [push_cast, AV.isCell]) sz88 (by simp [push_cast]) ?_) <;> try simp only [push_cast, Nat.reduceAdd])
   all_goals refine AOps_nil ?_
   all_goals
    refine thenK_normal (hK2 _ ?_)
    try clear hK2
    refine AW_seq_k (fun K3 hK3 => ?_)
    refine AW_seq_k (fun K4 hK4 => ?_)
    refine AW_region ?_
    all_goals (refine AOps_cons rfl (AOp_load_ptr _ _ _ _ rfl (by first | exact hget0 | exact hgetN _ rfl | assumption | exact hgetL (by assumption) | exact hgetE (by first | assumption | apply hGl) | exact hgetEN (by first | assumption | apply hGl) _ rfl) sz27 ag27 (by simp [push_cast]) ?_) <;> try simp only [push_cast, Nat.reduceAdd])
    all_goals refine AOps_cons rfl (AOp_call _ _ _ rfl rfl ok54 ?_)
    all_goals (try simp only [push_cast, Nat.reduceAdd])
    all_goals refine (walkF_ac t _).mono ?_
    all_goals rintro r H' ⟨rfl, rfl⟩
    all_goals (try simp only [push_cast, Nat.reduceAdd])
    all_goals refine AOps_nil ?_
    all_goals
     refine thenK_normal (hK4 _ ?_)
     try clear hK4
     refine AW_block ?_
     refine AW_iterE _ _ (walk_iter t hb _) (fun pre => H ++ [.cells [.str t.name, .bool t.var, .sl .none (encTs t.args)], .map (countV pre) (encC (countM pre)), .cells [.map (H.length + 1)], .cells [.str t.name, .bool t.var, .sl .none (encTs t.args)]]) (fun _ _ => none) rfl ok73 (by simp [countM, countV, amap]) (by simp [push_cast, hgetN]) (H.length + 4) (by simp) (fun p => by simp) (fun p o ho => by rcases List.mem_append.1 ho with h | h; exact .inl (List.mem_append_left _ h); right; simp only [List.mem_cons, List.not_mem_nil, or_false] at h; rcases h with rfl | rfl | rfl | rfl <;> first | exact oscoped_amap (by simp [Scoped]) (by simp [Scoped]) | simp [OScoped, ScopedL, Scoped, scoped_encTs]) (fun x => rfl) ?round5 ?hend5 ?hleft5
     case' round5 =>
      intro pre x suf X l N G G' he hn hN hG hG' hGl1 hGl2
      have hGl3 : G'.length = G.length := hGl2.trans hGl1.symm
      have g1 : G'[H.length + 1]? = some (.map (countV pre) (encC (countM pre))) := by rw [hG', List.append_assoc]; exact hgetN 1 rfl
      have g2 : G'[H.length + 2]? = some (.cells [.map (H.length + 1)]) := by rw [hG', List.append_assoc]; exact hgetN 2 rfl
      (try simp only [push_cast, zipPut, Nat.reduceAdd])
      refine AW_region ?_
      all_goals (refine AOps_cons rfl (AOp_alloc _ zr27 (by simp [ofVal, AV.isCell, Value.oneCell']) ?_) <;> try simp only [push_cast, Nat.reduceAdd])
      all_goals (refine AOps_cons rfl (AOp_store _ _ _ _ _ rfl (by first | exact hget0 | exact hgetN _ rfl | assumption | exact hgetL (by assumption) | exact hgetE (by first | assumption | apply hGl) | exact hgetEN (by first | assumption | apply hGl) _ rfl) rfl rfl (by first | exact .inl rfl | exact .inr ⟨_, rfl⟩) (by simp [push_cast, AV.isCell]) sz27 (by simp [push_cast]) ?_) <;> try simp only [push_cast, Nat.reduceAdd])
      all_goals refine AOps_nil ?_
      all_goals
       first | refine ⟨rfl, _, rfl, ?_⟩ | refine ⟨rfl, [], (List.append_nil _).symm, ?_⟩
       (try simp only [push_cast, Nat.reduceAdd])
       refine AW_block ?_
       refine AW_seq_k (fun K6 hK6 => ?_)
       refine AW_region ?_
       all_goals (refine AOps_cons rfl (AOp_fieldAddr_ptr _ _ _ _ rfl fd27_1 (by decide) ?_) <;> try simp only [push_cast, Nat.reduceAdd])
       all_goals (refine AOps_cons rfl (AOp_load1_ptr _ _ _ _ _ rfl (by first | exact hget0 | exact hgetN _ rfl | assumption | exact hgetL (by assumption) | exact hgetE (by first | assumption | apply hGl) | exact hgetEN (by first | assumption | apply hGl) _ rfl) sz4 ag4 (by decide) (by simp [push_cast]) rfl ?_) <;> try simp only [push_cast, Nat.reduceAdd])
       all_goals refine AOps_nil ?_
       all_goals
        refine thenK_normal (hK6 _ ?_)
        try clear hK6
        apply AW_cond
        case' hc => exact rfl
        case' hf =>
         intro hc7
         try (exfalso; (first | (cases hc7; done) | (simp at hc7; done) | (simp at hc7; omega)); done)
         all_goals (try simp only [decide_eq_true_eq, decide_eq_false_iff_not, Bool.not_eq_true', Bool.not_eq_false', Bool.not_eq_eq_eq_not, Bool.not_true, Bool.not_false] at hc7)
         all_goals
          refine AW_skip ?_
        case' ht =>
         intro hc7
         try (exfalso; (first | (cases hc7; done) | (simp at hc7; done) | (simp at hc7; omega)); done)
         all_goals (try simp only [decide_eq_true_eq, decide_eq_false_iff_not, Bool.not_eq_true', Bool.not_eq_false', Bool.not_eq_eq_eq_not, Bool.not_true, Bool.not_false] at hc7)
         all_goals
          refine AW_region ?_
          all_goals (refine AOps_cons rfl (AOp_load1_ptr _ _ _ _ _ rfl (by first | exact hget0 | exact hgetN _ rfl | assumption | exact hgetL (by assumption) | exact hgetE (by first | assumption | apply hGl) | exact hgetEN (by first | assumption | apply hGl) _ rfl) sz88 ag88 (by decide) (by simp [push_cast]) rfl ?_) <;> try simp only [push_cast, Nat.reduceAdd])
          all_goals (refine AOps_cons rfl (AOp_fieldAddr_ptr _ _ _ _ rfl fd27_0 (by decide) ?_) <;> try simp only [push_cast, Nat.reduceAdd])
          all_goals (refine AOps_cons rfl (AOp_load1_ptr _ _ _ _ _ rfl (by first | exact hget0 | exact hgetN _ rfl | assumption | exact hgetL (by assumption) | exact hgetE (by first | assumption | apply hGl) | exact hgetEN (by first | assumption | apply hGl) _ rfl) sz9 ag9 (by decide) (by simp [push_cast]) rfl ?_) <;> try simp only [push_cast, Nat.reduceAdd])
          all_goals refine AOps_cons rfl (AOp_lookup (strKey un9) (AV.int .i64) _ _ _ _ (.int .i64 0) rfl (by exact hgetL g1) rfl un88 (ZeroV_of (.int .i64 0) (by kernel_rfl)) ?_)
          all_goals have hcb := countM_bound pre x.2.name
          all_goals have hpl : pre.length ≤ t.size := by rw [← hwl, he]; simp
          all_goals rw [show (Option.map (AV.int IntKind.i64) (aget (countM pre) x.2.name)).getD (.int .i64 0) = .int .i64 ((aget (countM pre) x.2.name).getD 0) from by cases aget (countM pre) x.2.name <;> rfl]
          all_goals (try simp only [push_cast, Nat.reduceAdd])
          all_goals refine AOps_cons rfl (AOp_bin_int _ _ _ _ rfl rfl rfl ?_)
          all_goals (try simp only [push_cast, Nat.reduceAdd])
          all_goals (try rw [IntWalk.i64_in _ (by omega)])
          all_goals (try simp only [push_cast, Nat.reduceAdd])
          all_goals (refine AOps_cons rfl (AOp_mapUpdate (strKey un9) (AV.int .i64) _ _ _ _ _ rfl (by exact hgetL g1) rfl rfl un88 ?_) <;> try simp only [push_cast, Nat.reduceAdd])
          all_goals refine AOps_nil ?_
        all_goals
         refine blockK_normal ?_
         refine iterK_normal ?_
         refine ⟨rfl, [.cells [.str x.2.name, .bool x.2.var, .sl .none (encTs x.2.args)]], ?_⟩
         rw [hG']
         first
           | (have hv : x.2.var = true := (by assumption); simp [countM_snoc, countV_snoc, countStep, hv, hsetN, List.append_assoc]; done)
           | (have hv : x.2.var = false := (by assumption); simp [countM_snoc, countV_snoc, countStep, hv]; done)
     case' hleft5 =>
      intro pre x suf c he hn hc; simp at hc
     case' hend5 =>
      intro hn
      (try simp only [push_cast, Nat.reduceAdd])
      refine blockK_normal ?_
      refine thenK_normal (hK3 _ ?_)
      try clear hK3
      refine AW_seq_k (fun K8 hK8 => ?_)
      refine AW_region ?_
      all_goals (refine AOps_cons rfl (AOp_load1_ptr _ _ _ _ _ rfl (by first | exact hget0 | exact hgetN _ rfl | assumption | exact hgetL (by assumption) | exact hgetE (by first | assumption | apply hGl) | exact hgetEN (by first | assumption | apply hGl) _ rfl) sz88 ag88 (by decide) (by simp [push_cast]) rfl ?_) <;> try simp only [push_cast, Nat.reduceAdd])
      all_goals (refine AOps_cons rfl (AOp_assign ?_) <;> try simp only [push_cast, Nat.reduceAdd])
      all_goals refine AOps_nil ?_
      all_goals
       refine thenK_normal (hK8 _ ?_)
       try clear hK8
       refine AW_ret ?_
       repeat (first | refine thenK_ret ?_ | refine loopK_ret ?_ | refine blockK_ret ?_)
       refine ⟨by first | exact .inl rfl | exact .inr rfl, _, rfl, outok_app 2 rfl (by simp) (by intro o ho; simp only [List.take_succ_cons, List.take_zero, List.mem_cons, List.not_mem_nil, or_false] at ho; rcases ho with rfl | rfl <;> first | exact oscoped_amap (by simp [Scoped]) (by simp [Scoped]) | simp [OScoped, ScopedL, Scoped, scoped_encTs]), by simp [push_cast, strip, Scoped], ?_⟩
       simp only [push_cast]
       exact ⟨by simp [strip], _, rfl⟩
end Ab
