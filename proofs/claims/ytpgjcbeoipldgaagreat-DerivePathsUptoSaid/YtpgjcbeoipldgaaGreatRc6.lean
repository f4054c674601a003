/- Part 6 of 6 of a proof. P5.6: Path returns a shortest derivation between two terms. -/
import Derived.Test.YtpgjcbeoipldgaaGreatRc5
set_option linter.unusedVariables false
set_option linter.unusedSimpArgs false
set_option maxRecDepth 10000
namespace Ab
open Go Go.Proofs
def idxF : Nat → List Term → List (List UInt8 × Int)
  | _, [] => []
  | i, t :: r => (keyP t, (i : Int)) :: idxF (i + 1) r
theorem idxF_snoc : ∀ (ts : List Term) (i : Nat) (u : Term), idxF i (ts ++ [u]) = idxF i ts ++ [(keyP u, ((i + ts.length : Nat) : Int))]
  | [], i, u => by simp [idxF]
  | t :: r, i, u => by
    have := idxF_snoc r (i + 1) u
    simp only [List.cons_append, idxF, this, List.length_cons]
    rw [show i + 1 + r.length = i + (r.length + 1) by omega]
theorem idxF_get (u : Term) (hu : formedP u = true) : ∀ (ts : List Term) (i : Nat), (∀ x, x ∈ ts → formedP x = true) → aget (idxF i ts) (keyP u) = if u ∈ ts then some ((i + ts.idxOf u : Nat) : Int) else none
  | [], i, _ => by simp [idxF, aget]
  | t :: r, i, h => by
    have ih := idxF_get u hu r (i + 1) (fun x hx => h x (by simp [hx]))
    rw [idxF, aget, ih]
    by_cases he : t = u
    · subst he; simp
    · have hk : ¬ keyP t = keyP u := fun e => he (keyP_inj (h t (by simp)) hu e)
      have he' : ¬ u = t := fun e => he e.symm
      rw [if_neg hk]
      by_cases hm : u ∈ r
      · have hx : (t :: r).idxOf u = r.idxOf u + 1 := by
          have hb : (t == u) = false := by simpa using he
          rw [List.idxOf_cons, hb]; rfl
        rw [if_pos hm, if_pos (by simp [hm]), hx]
        congr 2; omega
      · rw [if_neg hm, if_neg (by simp [hm, he'])]
theorem idxF_key : ∀ (ts : List Term) (i : Nat) (p : List UInt8 × Int), p ∈ idxF i ts → ∃ t, t ∈ ts ∧ p.1 = keyP t
  | [], _, _, h => by simp [idxF] at h
  | t :: r, i, p, h => by
    rw [idxF] at h
    rcases List.mem_cons.1 h with rfl | h
    · exact ⟨t, by simp, rfl⟩
    · obtain ⟨x, hx, e⟩ := idxF_key r (i + 1) p h
      exact ⟨x, by simp [hx], e⟩
theorem idxF_set {u : Term} (hu : formedP u = true) {ts : List Term} (h : ∀ x, x ∈ ts → formedP x = true) (hn : u ∉ ts) : aset (idxF 0 ts) (keyP u) (ts.length : Int) = idxF 0 (ts ++ [u]) := by
  rw [idxF_snoc, (aget_none (k := keyP u) (m := idxF 0 ts) (fun p hp => by
    obtain ⟨t, ht, e⟩ := idxF_key ts 0 p hp
    rw [e]
    exact fun e2 => hn (by rw [← keyP_inj (h t ht) hu e2]; exact ht))).2]
  simp
structure Edg where
  fr : Int
  to : Int
  st : Int × List Int
  deriving DecidableEq
@[reducible] def encE (e : Edg) : AV := .agg [.int .i64 e.fr, .int .i64 e.to, .int .i64 e.st.1, .sl .none (encP e.st.2)]
theorem uniE (l : List Edg) : Uni (1 + 1 + 2) (encL encE l) = True := eq_true (uni_encL (enc := encE) (k := 4) (fun _ => rfl) l)
theorem scopedE (n : Nat) (l : List Edg) : ScopedL n (encL encE l) = True := eq_true (scoped_encL (fun x => by simp [Scoped, ScopedL, scoped_encP]) l)
attribute [push_cast] uniE scopedE
def addR (most : Nat) (ts : List Term) (u : Term) : Nat × Bool := if u ∈ ts then (ts.idxOf u, true) else if most ≤ ts.length then (0, false) else (ts.length, true)
def addTs (most : Nat) (ts : List Term) (u : Term) : List Term := if u ∈ ts ∨ most ≤ ts.length then ts else ts ++ [u]
def addW (most : Nat) (ts : List Term) (w : Bool) (u : Term) : Bool := if u ∉ ts ∧ most ≤ ts.length then false else w
@[reducible] def mapT (ts : List Term) : List (AV × AV) := amap AV.str (AV.int .i64) (idxF 0 ts)
@[reducible] def exL (H : List AObj) (c2 c3 : AObj) (most : Nat) (ts : List Term) (el : List Edg) (w : Bool) (X : List AObj) : List AObj :=
  .grow 25 3 (flat (encTs ts)) :: gTok 117 4 (encL encE el) :: c2 :: c3 :: .map ts.length (mapT ts) :: .cells [.gr H.length ts.length, gSl (H.length + 1) (encL encE el), .bool w, .map (H.length + 4), .int .i64 (most : Nat)] :: X
@[reducible] def exHeap (H : List AObj) (c2 c3 : AObj) (most : Nat) (ts : List Term) (el : List Edg) (w : Bool) (X : List AObj) : List AObj := H ++ exL H c2 c3 most ts el w X
theorem outok_ex {H L L' Y : List AObj} {m : Nat} (hl : L.length = L'.length) (hm : m = H.length + L.length) (h : ∀ (i : Nat) (o : AObj), L'[i]? = some o → L[i]? = some o ∨ OScoped m o) : OutOk (H ++ L) (H ++ (L' ++ Y)) m := by
  subst hm
  refine ⟨by simp; omega, by simp, fun k hk => ?_⟩
  rcases Nat.lt_or_ge k H.length with h1 | h1
  · exact .inl ⟨by simp; omega, by rw [List.getElem?_append_left h1, List.getElem?_append_left h1]⟩
  · have hk2 : k - H.length < L'.length := by omega
    have e1 : (H ++ (L' ++ Y))[k]? = some L'[k - H.length] := by
      rw [List.getElem?_append_right h1, List.getElem?_append_left hk2, List.getElem?_eq_getElem hk2]
    rcases h (k - H.length) L'[k - H.length] (List.getElem?_eq_getElem hk2) with h2 | h2
    · exact .inl ⟨by simp; omega, by rw [e1, List.getElem?_append_right h1, h2]⟩
    · exact .inr ⟨_, e1, h2⟩
theorem osc_gx (n : Nat) (k len : Nat) (e : Nat) (el : List Edg) (w : Bool) (id : Nat) (mo : Int) (h1 : k < n) (h2 : e < n) (h3 : id < n) : OScoped n (.cells [.gr k len, gSl e (encL encE el), .bool w, .map id, .int .i64 mo]) := by
  have h4 : Scoped n (gSl e (encL encE el)) := by
    cases el with
    | nil => simp [gSl, encL, Scoped, ScopedL]
    | cons a r => exact ⟨h2, of_eq_true (scopedE n (a :: r))⟩
  simp [OScoped, ScopedL, Scoped, h1, h3, h4]
theorem scIx (n ver : Nat) (ts : List Term) : OScoped n (.map ver (amap AV.str (AV.int .i64) (idxF 0 ts))) = True := eq_true (osc_amap _ _ (idxF 0 ts) n ver (fun _ => by simp [Scoped]) (fun _ => by simp [Scoped]))
attribute [push_cast] scIx
theorem flT_len (ts : List Term) : (flat (encTs ts)).length = ts.length * 3 := by rw [flat_length (uni_encTs ts), encTs_length]
theorem splice_T (ts : List Term) (u : Term) (z : List AV) (hz : z.length = 3) : splice (flat (encTs ts) ++ z) (ts.length * 3) [.str u.name, .bool u.var, .sl .none (encTs u.args)] = flat (encTs (ts ++ [u])) := by
  have hl := flT_len ts
  unfold splice
  rw [← hl, List.take_left, List.drop_of_length_le (by rw [List.length_append, hz]; simp), List.append_nil, encTs_append, encTs_one]
  simp [flat, AV.cells]
theorem flT_sc (n : Nat) (ts : List Term) : ScopedL n (flat (encTs ts)) := by
  induction ts with
  | nil => rw [encTs_nil]; exact trivial
  | cons t ts ih =>
    rw [encTs_cons]
    have e : flat (encT t :: encTs ts) = [.str t.name, .bool t.var, .sl .none (encTs t.args)] ++ flat (encTs ts) := by simp [flat, AV.cells]
    rw [e]
    exact ⟨trivial, trivial, scoped_encTs n t.args, ih⟩
section
variable {P : Program} {ro : Option Nat} {st : ASt} {K : AV → List AObj → Prop} {dst : Option Tmp} {ty : TypeId} {pos : String} {after : Array Edge} {guard : Option (Nat × Bool)}
theorem appZ_T {t e by_ : Nat} {s x : Operand} (zs : List Value) (k : Nat) (ts : List Term) (tk : Tok) (hs : st.opd s = .gr k ts.length) (hx : st.opd x = .sl tk [.agg [.str [], .bool false, .sl .zero []]]) (hh : st.heap[k]? = some (.grow e 3 (flat (encTs ts))))
    (ht : SliceT P t e) (hsz : SzOf P e 3) (hby : BytesOf P e by_) (hz : ZeroOf P e zs) (hz0 : zs.length = 3) (hb : by_ ≤ 100) (hl : ts.length < 1099511627776)
    (k' : K (.gr k (ts.length + 1)) (st.heap.set k (.grow e 3 (flat (encTs ts) ++ [.str [], .bool false, .sl .zero []])))) :
    AOp P ro ⟨dst, .call { callee := .builtin .append, args := #[s, x], argTypes := #[t, t] }, ty, pos, after, guard⟩ K st := by
  have h1 : (ts.length + 1) * by_ ≤ 1099511627776 * 100 := Nat.mul_le_mul (by omega) hb
  refine AOp_append_gr1 zs k (encTs ts) [.agg [.str [], .bool false, .sl .zero []]] tk (by rw [encTs_length]; exact hs) hx hh ht hsz hby hz hz0 (by decide) (uni_encTs ts) (by simp [Uni, AV.cells]) (by intro c hc; simp [flat, AV.cells] at hc; rcases hc with rfl | rfl | rfl <;> rfl) (by rw [encTs_length]; simp; omega) (by rw [encTs_length]; simp; omega) ?_
  rw [encTs_length]
  exact k'
end
set_option maxHeartbeats 4000000 in
theorem add2_ac (H : List AObj) (c2 c3 x1 x2 : AObj) (most : Nat) (ts : List Term) (el : List Edg) (w : Bool) (u : Term) (hts : ∀ x, x ∈ ts → formedP x = true) (hu : formedP u = true) (hb : u.bulk ≤ 1099511627775) (hl : ts.length < 1099511627776) :
    ACall Tryz.prog 119 [.ptr (H.length + 5) 0, encT u] (exHeap H c2 c3 most ts el w [x1, x2]) (fun r H' => r = .tup [.int .i64 ((addR most ts u).1 : Nat), .bool (addR most ts u).2] ∧ H' = exHeap H c2 c3 most (addTs most ts u) el (addW most ts w u) [x1, x2]) := by
  have hget := idxF_get u hu ts 0 hts
  refine ACall_V (H.length + 8) 66 [.tmp 4, .tmp 5] Tryz.func119 rfl rfl rfl ?_
  simp only [push_cast, Nat.reduceAdd, Nat.reduceSub, Nat.reduceMul, Nat.reduceLT, Nat.reduceLeDiff, Nat.reduceEqDiff, Int.reduceToNat, ↓reduceIte]
  refine (key_ac u hb _).to ?_
  simp only [push_cast, Nat.reduceAdd, Nat.reduceSub, Nat.reduceMul, Nat.reduceLT, Nat.reduceLeDiff, Nat.reduceEqDiff, Int.reduceToNat, ↓reduceIte]
  refine AOp_lookupOk (strKey un9) (AV.int .i64) (idxF 0 ts) (H.length + 4) ts.length (keyP u) (.int .i64 0) rfl (by exact (agetN _ _ 4).trans rfl) rfl un125 (ZeroV_of (.int .i64 0) (by kernel_rfl)) ?_
  rw [hget]
  unfold addR addTs addW
  by_cases hm : u ∈ ts
  · rw [if_pos hm, if_pos hm, if_pos (.inl hm), if_neg (by simp [hm])]
    simp only [push_cast, Nat.reduceAdd, Nat.reduceSub, Nat.reduceMul, Nat.reduceLT, Nat.reduceLeDiff, Nat.reduceEqDiff, Int.reduceToNat, ↓reduceIte, Option.map_some, Option.getD_some, Option.isSome_some]
    exact outok_ex (L := exL H c2 c3 most ts el w [x1, x2]) (L' := exL H c2 c3 most ts el w [x1, x2]) (Y := [_]) rfl rfl (fun i o h => .inl h)
  · rw [if_neg hm, if_neg hm]
    simp only [push_cast, Nat.reduceAdd, Nat.reduceSub, Nat.reduceMul, Nat.reduceLT, Nat.reduceLeDiff, Nat.reduceEqDiff, Int.reduceToNat, ↓reduceIte, Option.map_none, Option.getD_none, Option.isSome_none]
    apply AW_drawE [some 22, some 23, some 24, some 25, some 26, some 27, some 28, some 29, some 30, some 31, some 32] [([], _)] [none, none, none, none, none, none, none, none, none, none, none] 0 [(0, [], [0]), (1, [], [22]), (2, [], [23]), (3, [], [24]), (4, [], [25]), (5, [], [26]), (6, [], [0]), (7, [], [28]), (8, [], [29]), (9, [], [30]), (10, [], [27, 3])] [_, _, _, _, _, _, _, _, _, _, _]
    case' hm => exact dr
    case' hn => rfl
    case' hok => rfl
    case' hlen => rfl
    case' hd => rfl
    case' h0 => rfl
    case' hstep =>
     simp only [DAllG, push_cast, Option.isSome_some, Option.isSome_none]
     repeat' apply And.intro
     all_goals (apply DOne_V; simp only [push_cast, Nat.reduceAdd, Nat.reduceSub, Nat.reduceMul, Nat.reduceLT, Nat.reduceLeDiff, Nat.reduceEqDiff, Int.reduceToNat, ↓reduceIte] <;> first | exact rfl | omega | exact ⟨rfl, rfl⟩ | exact trivial | exact ⟨by omega, rfl⟩ | exact ⟨by omega, by omega, rfl⟩ | exact ⟨by omega, rfl, rfl⟩ | exact ⟨by omega, by omega, rfl, rfl⟩ | skip)
    case' hQ => skip
    simp only [push_cast, Nat.reduceAdd, Nat.reduceSub, Nat.reduceMul, Nat.reduceLT, Nat.reduceLeDiff, Nat.reduceEqDiff, Int.reduceToNat, ↓reduceIte]
    refine cI (fun h5 => ?_) (fun h5 => ?_)
    · have h5' : most ≤ ts.length := by omega
      rw [if_pos h5', if_pos (.inr h5'), if_pos ⟨hm, h5'⟩]
      simp only [push_cast, Nat.reduceAdd, Nat.reduceSub, Nat.reduceMul, Nat.reduceLT, Nat.reduceLeDiff, Nat.reduceEqDiff, Int.reduceToNat, ↓reduceIte]
      refine outok_ex (L := exL H c2 c3 most ts el w [x1, x2]) (L' := exL H c2 c3 most ts el false [x1, x2]) (Y := [_]) rfl rfl (fun i o h => ?_)
      match i with
      | 0 | 1 | 2 | 3 | 4 => exact .inl h
      | 5 => injection h with h; subst h; exact .inr (osc_gx _ _ _ _ _ _ _ _ (by omega) (by omega) (by omega))
      | i + 6 => exact .inl h
    · have h5' : ¬ most ≤ ts.length := by omega
      rw [if_neg h5', if_neg (by rintro (h | h); exact hm h; exact h5' h), if_neg (by rintro ⟨_, h⟩; exact h5' h)]
      have hset := idxF_set hu hts hm
      apply AW_drawE [some 37, some 38, some 39, some 40, some 41, some 42, some 43, some 44, some 45, some 46, some 47, none] [([false], _), ([true], _)] [none, none, none, none, none, none, none, none, none, none, none, some 0] 1 [(0, [false], [0]), (1, [false], [37]), (2, [false], [38]), (3, [false], [39]), (4, [false], [6]), (5, [false], [0]), (6, [false], [42]), (7, [false], [43]), (8, [false], [44]), (9, [false], [45]), (10, [false], [46]), (11, [false], [40, 0, 5])] [_, _, _, _, _, _, _, _, _, _, _, _]
      case' hm => exact dr
      case' hn => rfl
      case' hok => rfl
      case' hlen => rfl
      case' hd => rfl
      case' h0 => rfl
      case' hstep =>
       simp only [DAllG, push_cast, Option.isSome_some, Option.isSome_none]
       repeat' apply And.intro
       all_goals (apply DOne_V; simp only [push_cast, Nat.reduceAdd, Nat.reduceSub, Nat.reduceMul, Nat.reduceLT, Nat.reduceLeDiff, Nat.reduceEqDiff, Int.reduceToNat, ↓reduceIte] <;> first | exact rfl | omega | exact ⟨rfl, rfl⟩ | exact trivial | exact ⟨by omega, rfl⟩ | exact ⟨by omega, by omega, rfl⟩ | exact ⟨by omega, rfl, rfl⟩ | exact ⟨by omega, by omega, rfl, rfl⟩ | (refine AOp_mapUpdate (strKey un9) (AV.int .i64) (idxF 0 ts) (H.length + 4) ts.length (keyP u) (ts.length : Int) rfl (by exact (agetN _ _ 4).trans rfl) rfl rfl un125 ?_; exact ⟨rfl, rfl⟩))
      case' hQ => skip
      simp only [push_cast, Nat.reduceAdd, Nat.reduceSub, Nat.reduceMul, Nat.reduceLT, Nat.reduceLeDiff, Nat.reduceEqDiff, Int.reduceToNat, ↓reduceIte]
      have hfl := flT_len ts
      apply AW_drawE [some 48, some 49, some 50, some 51, some 52, some 53, some 54, some 55, some 56, some 57, none, some 58, some 59, some 60, none] [([false, false, false], _), ([true, false, false], _), ([true, false, true], _), ([true, true, false], _), ([true, true, true], _)] [none, none, none, none, none, none, none, none, some 0, none, some 1, none, none, none, some 2] 3 [(0, [false, false, false], [0]), (1, [false, false, false], [48]), (2, [false, false, false], [49]), (3, [false, false, false], [50]), (4, [false, false, false], [51]), (5, [false, false, false], [3]), (6, [false, false, false], [52]), (7, [false, false, false], []), (8, [false, false, false], [52, 2]), (9, [true, false, false], [54, 1]), (10, [true, false, false], [53, 3]), (11, [true, false, false], [48]), (12, [true, false, false], [58]), (13, [true, false, false], [59]), (14, [true, false, false], [56, 3]), (9, [true, false, true], [54, 1]), (10, [true, false, true], [53, 3]), (11, [true, true, false], [48]), (11, [true, false, true], [48]), (12, [true, true, false], [58]), (12, [true, false, true], [58]), (13, [true, true, false], [59]), (14, [true, true, false], [56, 3]), (11, [true, true, true], [48]), (12, [true, true, true], [58])] [_, _, _, _, _, _, _, _, _, _, _, _, _, _, _]
      case' hm => exact dr
      case' hn => rfl
      case' hok => rfl
      case' hlen => rfl
      case' hd => rfl
      case' h0 => rfl
      case' hstep =>
       simp only [DAllG, push_cast, Option.isSome_some, Option.isSome_none]
       repeat' apply And.intro
       all_goals (apply DOne_V; simp only [push_cast, Nat.reduceAdd, Nat.reduceSub, Nat.reduceMul, Nat.reduceLT, Nat.reduceLeDiff, Nat.reduceEqDiff, Int.reduceToNat, ↓reduceIte] <;> first | exact rfl | omega | exact ⟨rfl, rfl⟩ | exact trivial | exact ⟨by omega, rfl⟩ | exact ⟨by omega, by omega, rfl⟩ | exact ⟨by omega, rfl, rfl⟩ | exact ⟨by omega, by omega, rfl, rfl⟩ | (refine appZ_T _ H.length ts _ rfl rfl (by exact aget0 _ _ _) sl23 sz25 by25 zr25 rfl (by decide) hl ?_; exact ⟨rfl, rfl⟩) | trace_state)
      case' hQ => skip
      simp only [push_cast, Nat.reduceAdd, Nat.reduceSub, Nat.reduceMul, Nat.reduceLT, Nat.reduceLeDiff, Nat.reduceEqDiff, Int.reduceToNat, ↓reduceIte]
      have hsp := splice_T ts u [.str [], .bool false, .sl .zero []] rfl
      simp only [splice, List.append_assoc, List.cons_append, List.nil_append, List.length_cons, List.length_nil, Nat.zero_add, Nat.reduceAdd] at hsp
      rw [hsp, hset]
      refine ⟨⟨by omega, by omega⟩, ?_, by omega, ?_⟩
      · refine outok_ex (L := exL H c2 c3 most ts el w [x1, x2]) (L' := .grow 25 3 (flat (encTs (ts ++ [u]))) :: gTok 117 4 (encL encE el) :: c2 :: c3 :: .map (ts.length + 1) (mapT (ts ++ [u])) :: .cells [.gr H.length (ts.length + 1), gSl (H.length + 1) (encL encE el), .bool w, .map (H.length + 4), .int .i64 (most : Nat)] :: [x1, x2]) (Y := [_]) rfl rfl (fun i o h => ?_)
        match i with
        | 0 => injection h with h; subst h; exact .inr (flT_sc _ _)
        | 1 | 2 | 3 => exact .inl h
        | 4 => injection h with h; subst h; exact .inr (of_eq_true (scIx _ _ _))
        | 5 => injection h with h; subst h; exact .inr (osc_gx _ _ _ _ _ _ _ _ (by omega) (by omega) (by omega))
        | i + 6 => exact .inl h
      · exact ⟨rfl, rfl⟩
section
variable {P : Program} {ro : Option Nat} {st : ASt} {K : AV → List AObj → Prop} {dst : Option Tmp} {ty : TypeId} {pos : String} {after : Array Edge} {guard : Option (Nat × Bool)}
theorem appZ0_T {t e by_ : Nat} {s x : Operand} (zs : List Value) (k : Nat) (tk : Tok) (hs : st.opd s = .sl .zero []) (hx : st.opd x = .sl tk [.agg [.str [], .bool false, .sl .zero []]]) (hh : st.heap[k]? = some .dead)
    (ht : SliceT P t e) (hsz : SzOf P e 3) (hby : BytesOf P e by_) (hz : ZeroOf P e zs) (hz0 : zs.length = 3) (hb : by_ ≤ 100)
    (k' : K (.gr k 1) (st.heap.set k (.grow e 3 [.str [], .bool false, .sl .zero []]))) :
    AOp P ro ⟨dst, .call { callee := .builtin .append, args := #[s, x], argTypes := #[t, t] }, ty, pos, after, guard⟩ K st :=
  AOp_append_zeroGr k hh zs [.agg [.str [], .bool false, .sl .zero []]] tk hs hx ht hsz hby hz hz0 (by decide) (by simp [Uni, AV.cells]) (by intro c hc; simp [flat, AV.cells] at hc; rcases hc with rfl | rfl | rfl <;> rfl) (by simp) (by simp; omega) (by simp) k'
end
@[reducible] def exL0 (H : List AObj) (c2 c3 : AObj) (most : Nat) : List AObj := [.dead, .dead, c2, c3, .map 0 [], .cells [.sl .zero [], .sl .zero [], .bool true, .map (H.length + 4), .int .i64 (most : Nat)]]
set_option maxHeartbeats 4000000 in
theorem add1_ac (H : List AObj) (c2 c3 : AObj) (most : Nat) (u : Term) (hu : formedP u = true) (hb : u.bulk ≤ 1099511627775) (hm : 1 ≤ most) :
    ACall Tryz.prog 119 [.ptr (H.length + 5) 0, encT u] (H ++ exL0 H c2 c3 most) (fun r H' => r = .tup [.int .i64 0, .bool true] ∧ H' = exHeap H c2 c3 most [u] [] true []) := by
  refine ACall_V (H.length + 6) 66 [.tmp 4, .tmp 5] Tryz.func119 rfl rfl rfl ?_
  simp only [push_cast, Nat.reduceAdd, Nat.reduceSub, Nat.reduceMul, Nat.reduceLT, Nat.reduceLeDiff, Nat.reduceEqDiff, Int.reduceToNat, ↓reduceIte]
  refine (key_ac u hb _).to ?_
  simp only [push_cast, Nat.reduceAdd, Nat.reduceSub, Nat.reduceMul, Nat.reduceLT, Nat.reduceLeDiff, Nat.reduceEqDiff, Int.reduceToNat, ↓reduceIte]
  refine AOp_lookupOk (strKey un9) (AV.int .i64) [] (H.length + 4) 0 (keyP u) (.int .i64 0) rfl (by exact (agetN _ _ 4).trans rfl) rfl un125 (ZeroV_of (.int .i64 0) (by kernel_rfl)) ?_
  simp only [push_cast, Nat.reduceAdd, Nat.reduceSub, Nat.reduceMul, Nat.reduceLT, Nat.reduceLeDiff, Nat.reduceEqDiff, Int.reduceToNat, ↓reduceIte, aget, Option.map_none, Option.getD_none, Option.isSome_none]
  apply AW_drawE [some 22, some 23, some 24, some 25, some 26, some 27, some 28, some 29, some 30, some 31, some 32] [([], _)] [none, none, none, none, none, none, none, none, none, none, none] 0 [(0, [], [0]), (1, [], [22]), (2, [], [23]), (3, [], [24]), (4, [], [25]), (5, [], [26]), (6, [], [0]), (7, [], [28]), (8, [], [29]), (9, [], [30]), (10, [], [27, 3])] [_, _, _, _, _, _, _, _, _, _, _]
  case' hm => exact dr
  case' hn => rfl
  case' hok => rfl
  case' hlen => rfl
  case' hd => rfl
  case' h0 => rfl
  case' hstep =>
   simp only [DAllG, push_cast, Option.isSome_some, Option.isSome_none]
   repeat' apply And.intro
   all_goals (apply DOne_V; simp only [push_cast, Nat.reduceAdd, Nat.reduceSub, Nat.reduceMul, Nat.reduceLT, Nat.reduceLeDiff, Nat.reduceEqDiff, Int.reduceToNat, ↓reduceIte] <;> first | exact rfl | omega | exact ⟨rfl, rfl⟩ | exact trivial | exact ⟨by omega, rfl⟩ | exact ⟨by omega, by omega, rfl⟩ | exact ⟨by omega, rfl, rfl⟩ | exact ⟨by omega, by omega, rfl, rfl⟩ | skip)
  case' hQ => skip
  simp only [push_cast, Nat.reduceAdd, Nat.reduceSub, Nat.reduceMul, Nat.reduceLT, Nat.reduceLeDiff, Nat.reduceEqDiff, Int.reduceToNat, ↓reduceIte]
  refine cI (fun h5 => absurd h5 (by omega)) (fun h5 => ?_)
  apply AW_drawE [some 37, some 38, some 39, some 40, some 41, some 42, some 43, some 44, some 45, some 46, some 47, none] [([false], _), ([true], _)] [none, none, none, none, none, none, none, none, none, none, none, some 0] 1 [(0, [false], [0]), (1, [false], [37]), (2, [false], [38]), (3, [false], [39]), (4, [false], [6]), (5, [false], [0]), (6, [false], [42]), (7, [false], [43]), (8, [false], [44]), (9, [false], [45]), (10, [false], [46]), (11, [false], [40, 0, 5])] [_, _, _, _, _, _, _, _, _, _, _, _]
  case' hm => exact dr
  case' hn => rfl
  case' hok => rfl
  case' hlen => rfl
  case' hd => rfl
  case' h0 => rfl
  case' hstep =>
   simp only [DAllG, push_cast, Option.isSome_some, Option.isSome_none]
   repeat' apply And.intro
   all_goals (apply DOne_V; simp only [push_cast, Nat.reduceAdd, Nat.reduceSub, Nat.reduceMul, Nat.reduceLT, Nat.reduceLeDiff, Nat.reduceEqDiff, Int.reduceToNat, ↓reduceIte] <;> first | exact rfl | omega | exact ⟨rfl, rfl⟩ | exact trivial | exact ⟨by omega, rfl⟩ | exact ⟨by omega, by omega, rfl⟩ | exact ⟨by omega, rfl, rfl⟩ | exact ⟨by omega, by omega, rfl, rfl⟩ | (refine AOp_mapUpdate (strKey un9) (AV.int .i64) [] (H.length + 4) 0 (keyP u) (0 : Int) rfl (by exact (agetN _ _ 4).trans rfl) rfl rfl un125 ?_; exact ⟨rfl, rfl⟩))
  case' hQ => skip
  simp only [push_cast, Nat.reduceAdd, Nat.reduceSub, Nat.reduceMul, Nat.reduceLT, Nat.reduceLeDiff, Nat.reduceEqDiff, Int.reduceToNat, ↓reduceIte]
  apply AW_drawE [some 48, some 49, some 50, some 51, some 52, some 53, some 54, some 55, some 56, some 57, none, some 58, some 59, some 60, none] [([false, false, false], _), ([true, false, false], _), ([true, false, true], _), ([true, true, false], _), ([true, true, true], _)] [none, none, none, none, none, none, none, none, some 0, none, some 1, none, none, none, some 2] 3 [(0, [false, false, false], [0]), (1, [false, false, false], [48]), (2, [false, false, false], [49]), (3, [false, false, false], [50]), (4, [false, false, false], [51]), (5, [false, false, false], [3]), (6, [false, false, false], [52]), (7, [false, false, false], []), (8, [false, false, false], [52, 2]), (9, [true, false, false], [54, 1]), (10, [true, false, false], [53, 3]), (11, [true, false, false], [48]), (12, [true, false, false], [58]), (13, [true, false, false], [59]), (14, [true, false, false], [56, 3]), (9, [true, false, true], [54, 1]), (10, [true, false, true], [53, 3]), (11, [true, true, false], [48]), (11, [true, false, true], [48]), (12, [true, true, false], [58]), (12, [true, false, true], [58]), (13, [true, true, false], [59]), (14, [true, true, false], [56, 3]), (11, [true, true, true], [48]), (12, [true, true, true], [58])] [_, _, _, _, _, _, _, _, _, _, _, _, _, _, _]
  case' hm => exact dr
  case' hn => rfl
  case' hok => rfl
  case' hlen => rfl
  case' hd => rfl
  case' h0 => rfl
  case' hstep =>
   simp only [DAllG, push_cast, Option.isSome_some, Option.isSome_none]
   repeat' apply And.intro
   all_goals (apply DOne_V; simp only [push_cast, Nat.reduceAdd, Nat.reduceSub, Nat.reduceMul, Nat.reduceLT, Nat.reduceLeDiff, Nat.reduceEqDiff, Int.reduceToNat, ↓reduceIte] <;> first | exact rfl | omega | exact ⟨rfl, rfl⟩ | exact trivial | exact ⟨by omega, rfl⟩ | exact ⟨by omega, by omega, rfl⟩ | exact ⟨by omega, rfl, rfl⟩ | exact ⟨by omega, by omega, rfl, rfl⟩ | (refine appZ0_T _ H.length _ rfl rfl (by exact aget0 _ _ _) sl23 sz25 by25 zr25 rfl (by decide) ?_; exact ⟨rfl, rfl⟩) | trace_state)
  case' hQ => skip
  simp only [push_cast, Nat.reduceAdd, Nat.reduceSub, Nat.reduceMul, Nat.reduceLT, Nat.reduceLeDiff, Nat.reduceEqDiff, Int.reduceToNat, ↓reduceIte]
  refine ⟨⟨by omega, by omega⟩, ?_, by omega, by simp [flat, AV.cells], rfl⟩
  refine outok_ex (L := exL0 H c2 c3 most) (L' := [.grow 25 3 [.str u.name, .bool u.var, .sl .none (encTs u.args)], .dead, c2, c3, .map 1 (mapT [u]), .cells [.gr H.length 1, .sl .zero [], .bool true, .map (H.length + 4), .int .i64 (most : Nat)]]) (Y := [_]) rfl rfl (fun i o h => ?_)
  match i with
  | 0 => injection h with h; subst h; exact .inr ⟨trivial, trivial, scoped_encTs _ u.args, trivial⟩
  | 1 | 2 | 3 => exact .inl h
  | 4 => injection h with h; subst h; exact .inr (of_eq_true (scIx _ 1 [u]))
  | 5 => injection h with h; subst h; exact .inr (osc_gx _ _ _ (H.length + 1) [] _ _ _ (by omega) (by omega) (by omega))
  | i + 6 => exact .inl h
end Ab
set_option maxRecDepth 10000
namespace Ab
open Go Go.Proofs
structure GrP where
  ts : List Term
  es : List Edg
  wh : Bool
def zeroG : GrP := ⟨[], [], false⟩
@[reducible] def encG (g : GrP) : AV := .agg [.sl .none (encTs g.ts), .sl .none (encL encE g.es), .bool g.wh]
def exStep (most i : Nat) (g : GrP) (s : Int × List Int) (u : Term) : GrP := ⟨addTs most g.ts u, if (addR most g.ts u).2 then g.es ++ [⟨i, (addR most g.ts u).1, s⟩] else g.es, addW most g.ts g.wh u⟩
def exRow (rs : List (Term × Term)) (most i : Nat) (t : Term) : GrP → List (Int × List Int) → GrP × Int
  | g, [] => (g, 0)
  | g, s :: r => if (doE rs t s).2 ≠ 0 then (zeroG, (doE rs t s).2) else exRow rs most i t (exStep most i g s (doE rs t s).1) r
def expF (rs : List (Term × Term)) (most : Nat) : Nat → Nat → GrP → GrP × Int
  | 0, _, g => (g, 0)
  | n + 1, i, g => match g.ts[i]? with
    | none => (g, 0)
    | some t => if (exRow rs most i t g (allS rs t)).2 ≠ 0 then exRow rs most i t g (allS rs t) else expF rs most n (i + 1) (exRow rs most i t g (allS rs t)).1
def exploreF (rs : List (Term × Term)) (t : Term) (most : Nat) : GrP × Int := expF rs most most 0 ⟨[t], [], true⟩
def encGE (q : GrP × Int) : AV := .tup [encG q.1, .int .i64 q.2]
theorem allS_len {rs : List (Term × Term)} (hr : sysP rs = 0) {t : Term} (ht : checkP t = 0) : (allS rs t).length ≤ 256000 := by
  have hc := check_small ht
  have h2 := allI_len rs (walkT t [])
  have h3 := walkT_length t []
  have h4 : (walkT t []).length * rs.length ≤ 4000 * 64 := Nat.mul_le_mul (by omega) (sys_B hr).1.1
  unfold allS
  omega
theorem addTs_len (most : Nat) (ts : List Term) (u : Term) (h : ts.length ≤ most) : (addTs most ts u).length ≤ most := by
  unfold addTs; split
  · exact h
  · rename_i h1; simp; omega
theorem addTs_mem {most : Nat} {ts : List Term} {u x : Term} (h : x ∈ addTs most ts u) : x ∈ ts ∨ x = u := by
  unfold addTs at h; split at h
  · exact .inl h
  · rcases List.mem_append.1 h with h | h
    · exact .inl h
    · exact .inr (List.mem_singleton.1 h)
theorem addTs_get {most : Nat} {ts : List Term} {u t : Term} {i : Nat} (h : ts[i]? = some t) : (addTs most ts u)[i]? = some t := by
  unfold addTs; split
  · exact h
  · rw [List.getElem?_append_left (List.getElem?_eq_some_iff.1 h).1]; exact h
theorem flT_get (ts : List Term) (i : Nat) (h : i < ts.length) : ((flat (encTs ts)).drop (i * 3)).take 3 = [.str (ts[i]).name, .bool (ts[i]).var, .sl .none (encTs (ts[i]).args)] := by
  have e : ts = ts.take i ++ ts[i] :: ts.drop (i + 1) := by rw [← List.drop_eq_getElem_cons h, List.take_append_drop]
  have hl := flT_len (ts.take i)
  rw [List.length_take, Nat.min_eq_left (by omega)] at hl
  obtain ⟨x, hx⟩ : ∃ x, x = ts[i] := ⟨_, rfl⟩
  rw [← hx] at e ⊢
  rw [e, encTs_append]
  have e2 : flat (encTs (ts.take i) ++ encTs (x :: ts.drop (i + 1))) = flat (encTs (ts.take i)) ++ flat (encTs (x :: ts.drop (i + 1))) := by simp [flat]
  rw [e2, ← hl, List.drop_left, encTs_cons]
  simp [flat, AV.cells]
theorem grS_T (k : Nat) {ts : List Term} (h : ts ≠ []) : AV.gr k ts.length = grS k (encTs ts) := by
  cases ts with
  | nil => exact absurd rfl h
  | cons t r => rw [encTs_cons]; show AV.gr k (r.length + 1) = .gr k ((encTs r).length + 1); rw [encTs_length]
theorem grO_T (e : Nat) {ts : List Term} (h : ts ≠ []) : AObj.grow e 3 (flat (encTs ts)) = grO e 3 (encTs ts) := by
  cases ts with
  | nil => exact absurd rfl h
  | cons t r => rw [encTs_cons]; rfl
theorem osc_exL {n : Nat} {H : List AObj} {c2 c3 : AObj} {most : Nat} {ts : List Term} {el : List Edg} {w : Bool} (h2 : OScoped n c2) (h3 : OScoped n c3) (hn : H.length + 6 ≤ n) : ∀ o, o ∈ exL H c2 c3 most ts el w [] → OScoped n o := by
  intro o ho
  simp only [List.mem_cons, List.not_mem_nil, or_false] at ho
  rcases ho with rfl | rfl | rfl | rfl | rfl | rfl
  · exact flT_sc _ _
  · cases el with
    | nil => exact trivial
    | cons a r => exact trivial
  · exact h2
  · exact h3
  · exact of_eq_true (scIx _ _ _)
  · exact osc_gx _ _ _ _ _ _ _ _ (by omega) (by omega) (by omega)
theorem ok_ex (H : List AObj) (t : Term) (most : Nat) (g : GrP) : OutOk H (H ++ [.grow 25 3 (flat (encTs g.ts)), gTok 117 4 (encL encE g.es), .cells [.str t.name, .bool t.var, .sl .none (encTs t.args)], .cells [.sl .zero [], .sl .zero [], .bool false], .map g.ts.length (mapT g.ts), .cells [.gr H.length g.ts.length, gSl (H.length + 1) (encL encE g.es), .bool g.wh, .map (H.length + 4), .int .i64 (most : Nat)]]) (H.length + 6) :=
  outok_app (L := exL H (.cells [.str t.name, .bool t.var, .sl .none (encTs t.args)]) (.cells [.sl .zero [], .sl .zero [], .bool false]) most g.ts g.es g.wh []) 6 rfl (by simp) (fun o ho => osc_exL (by exact ⟨trivial, trivial, scoped_encTs _ t.args, trivial⟩) (by exact ⟨trivial, trivial, trivial, trivial⟩) (Nat.le_refl _) o (List.mem_of_mem_take ho))
theorem ok_exX (H : List AObj) (t : Term) (most : Nat) (ts : List Term) (el : List Edg) (w : Bool) (X : List AObj) : OutOk H (H ++ exL H (.cells [.str t.name, .bool t.var, .sl .none (encTs t.args)]) (.cells [.sl .zero [], .sl .zero [], .bool false]) most ts el w X) (H.length + 6) :=
  outok_app 6 rfl (by simp) (fun o ho => osc_exL (c2 := .cells [.str t.name, .bool t.var, .sl .none (encTs t.args)]) (c3 := .cells [.sl .zero [], .sl .zero [], .bool false]) (most := most) (ts := ts) (el := el) (w := w) (by exact ⟨trivial, trivial, scoped_encTs _ t.args, trivial⟩) (by exact ⟨trivial, trivial, trivial, trivial⟩) (Nat.le_refl _) o (by simpa using ho))
theorem expF_end (rs : List (Term × Term)) (most n : Nat) (g : GrP) : expF rs most n g.ts.length g = (g, 0) := by
  cases n with
  | zero => rfl
  | succ n => rw [expF, List.getElem?_eq_none (Nat.le_refl _)]
structure GOk (most i j : Nat) (t : Term) (g : GrP) : Prop where
  len : g.ts.length ≤ most
  ck : ∀ x, x ∈ g.ts → checkP x = 0
  es : g.es.length ≤ i * 256000 + j
  at' : g.ts[i]? = some t
theorem GOk.step {rs : List (Term × Term)} (hr : sysP rs = 0) {most i j : Nat} {t : Term} {g : GrP} (h : GOk most i j t g) (ht : checkP t = 0) {s : Int × List Int} (hd : (doE rs t s).2 = 0) : GOk most i (j + 1) t (exStep most i g s (doE rs t s).1) := by
  refine ⟨addTs_len most _ _ h.len, fun x hx => ?_, ?_, addTs_get h.at'⟩
  · rcases addTs_mem hx with hx | rfl
    · exact h.ck x hx
    · exact do_check hr ht hd
  · have := h.es
    unfold exStep
    split <;> simp <;> omega
set_option maxRecDepth 1000000 in
set_option maxHeartbeats 8000000 in
theorem explore_ac (rs : List (Term × Term)) (hr : sysP rs = 0) (t : Term) (ht : checkP t = 0) (most : Nat) (hm : 1 ≤ most) (hm2 : most ≤ 4096) (H : List AObj) :
    ACall Tryz.prog 83 [.sl .none (encL encRu rs), encT t, .int .i64 (most : Nat)] H (fun r H' => r = encGE (exploreF rs t most) ∧ H' = H) := by
  have hts := check_small ht
  refine ACall_VHA (H.length) 95 [.cell 6 69, .tmp 7] Tryz.func83 rfl rfl rfl ?_
  refine AW_reserve 2 ?_
  refine AW_of_W ?_
  simp only [push_cast, Nat.reduceAdd, Nat.reduceSub, Nat.reduceMul, Nat.reduceLT, Nat.reduceLeDiff, Nat.reduceEqDiff, Int.reduceToNat, ↓reduceIte]
  refine (own_ac t (by omega) _).to ?_
  simp only [push_cast, Nat.reduceAdd, Nat.reduceSub, Nat.reduceMul, Nat.reduceLT, Nat.reduceLeDiff, Nat.reduceEqDiff, Int.reduceToNat, ↓reduceIte]
  refine (add1_ac H (.cells [.str t.name, .bool t.var, .sl .none (encTs t.args)]) (.cells [.sl .zero [], .sl .zero [], .bool false]) most t ((check_iff t).1 ht).1 (by omega) hm).to ?_
  simp only [push_cast, Nat.reduceAdd, Nat.reduceSub, Nat.reduceMul, Nat.reduceLT, Nat.reduceLeDiff, Nat.reduceEqDiff, Int.reduceToNat, ↓reduceIte]
  obtain ⟨RES, hRES⟩ : ∃ RES, RES = exploreF rs t most := ⟨_, rfl⟩
  rw [← hRES]
  refine AW_loopW (maskG 98 [0, 5, 1, 0]) (fun (q : Nat × GrP) => [(9, .int .i64 q.1)]) (fun q => H ++ [.grow 25 3 (flat (encTs q.2.ts)), gTok 117 4 (encL encE q.2.es), .cells [.str t.name, .bool t.var, .sl .none (encTs t.args)], .cells [.sl .zero [], .sl .zero [], .bool false], .map q.2.ts.length (mapT q.2.ts), .cells [.gr H.length q.2.ts.length, gSl (H.length + 1) (encL encE q.2.es), .bool q.2.wh, .map (H.length + 4), .int .i64 (most : Nat)]]) (fun q => q.1 ≤ q.2.ts.length ∧ q.2.ts ≠ [] ∧ q.2.ts.length ≤ most ∧ (∀ x, x ∈ q.2.ts → checkP x = 0) ∧ q.2.es.length ≤ q.1 * 256000 ∧ RES = expF rs most (most - q.1) q.1 q.2) (fun q => most - q.1) (0, ⟨[t], [], true⟩) ⟨Nat.zero_le _, by simp, by simpa using hm, by intro x hx; simp at hx; rw [hx]; exact ht, by simp, by rw [hRES]; rfl⟩ (by simp only [push_cast, Nat.reduceAdd, Nat.reduceSub, Nat.reduceMul, Nat.reduceLT, Nat.reduceLeDiff, Nat.reduceEqDiff, Int.reduceToNat, ↓reduceIte]; exact ok_ex H t most ⟨[t], [], true⟩) (fun q hq => ?_)
  obtain ⟨i, g⟩ := q
  obtain ⟨q1, q2, q3, q4, q5, q6⟩ := hq
  simp only at q1 q2 q3 q4 q5 q6
  have hfl := flT_len g.ts
  simp only [push_cast, Nat.reduceAdd, Nat.reduceSub, Nat.reduceMul, Nat.reduceLT, Nat.reduceLeDiff, Nat.reduceEqDiff, Int.reduceToNat, ↓reduceIte]
  refine cI (fun h => ?_) (fun h => ?_)
  · have hil : i < g.ts.length := by omega
    obtain ⟨u, hu⟩ : ∃ u, u = g.ts[i]'hil := ⟨_, rfl⟩
    have hut : g.ts[i]? = some u := by rw [List.getElem?_eq_getElem hil, hu]
    have huc : checkP u = 0 := by rw [hu]; exact q4 _ (List.getElem_mem hil)
    have hus := check_small huc
    have hal := allS_len hr huc
    have hfg := flT_get g.ts i hil
    rw [← hu] at hfg
    obtain ⟨n, hn⟩ : ∃ n, most - i = n + 1 := ⟨most - i - 1, by omega⟩
    rw [hn, expF, hut] at q6
    simp only at q6
    simp only [push_cast, Nat.reduceAdd, Nat.reduceSub, Nat.reduceMul, Nat.reduceLT, Nat.reduceLeDiff, Nat.reduceEqDiff, Int.reduceToNat, ↓reduceIte, hfl, hfg]
    refine ⟨hil, by omega, ?_⟩
    refine (allSteps_ac rs (sys_B hr).1 u (by omega) _).to ?_
    simp only [push_cast, Nat.reduceAdd, Nat.reduceSub, Nat.reduceMul, Nat.reduceLT, Nat.reduceLeDiff, Nat.reduceEqDiff, Int.reduceToNat, ↓reduceIte]
    obtain ⟨l, hl⟩ : ∃ l, l = allS rs u := ⟨_, rfl⟩
    have hlm : ∀ s, s ∈ l → s.2.length < 1099511627776 := fun s hs => by
      rw [hl] at hs
      have := step_len hs
      omega
    rw [← hl] at q6 hal ⊢
    refine AW_loopW (maskG 98 [0, 5, 1, 0, 37, 0, 0]) (fun (q : Nat × GrP) => [(49, .int .i64 q.1)]) (fun q => H ++ [.grow 25 3 (flat (encTs q.2.ts)), gTok 117 4 (encL encE q.2.es), .cells [.str t.name, .bool t.var, .sl .none (encTs t.args)], .cells [.sl .zero [], .sl .zero [], .bool false], .map q.2.ts.length (mapT q.2.ts), .cells [.gr H.length q.2.ts.length, gSl (H.length + 1) (encL encE q.2.es), .bool q.2.wh, .map (H.length + 4), .int .i64 (most : Nat)]]) (fun q => q.1 ≤ l.length ∧ GOk most i q.1 u q.2 ∧ exRow rs most i u g l = exRow rs most i u q.2 (l.drop q.1)) (fun q => l.length - q.1) (0, g) ⟨Nat.zero_le _, ⟨q3, q4, by simpa using q5, hut⟩, by simp⟩ (by simp only [push_cast, Nat.reduceAdd, Nat.reduceSub, Nat.reduceMul, Nat.reduceLT, Nat.reduceLeDiff, Nat.reduceEqDiff, Int.reduceToNat, ↓reduceIte]; exact ok_ex H t most g) (fun q hq => ?_)
    obtain ⟨j, g'⟩ := q
    obtain ⟨p1, p2, p3⟩ := hq
    simp only at p1 p2 p3
    have hil' : i < g'.ts.length := (List.getElem?_eq_some_iff.1 p2.at').1
    have hgu : g'.ts[i]'hil' = u := (List.getElem?_eq_some_iff.1 p2.at').2
    have hfl' := flT_len g'.ts
    have hfg' := flT_get g'.ts i hil'
    rw [hgu] at hfg'
    simp only [push_cast, Nat.reduceAdd, Nat.reduceSub, Nat.reduceMul, Nat.reduceLT, Nat.reduceLeDiff, Nat.reduceEqDiff, Int.reduceToNat, ↓reduceIte]
    refine cI (fun h3 => ?_) (fun h3 => ?_)
    · have hjl : j < l.length := by omega
      obtain ⟨s, hs⟩ : ∃ s, s = l[j]'hjl := ⟨_, rfl⟩
      have hsm := hlm _ (List.getElem_mem hjl)
      rw [List.drop_eq_getElem_cons hjl, ← hs] at p3
      refine ⟨hjl, ?_⟩
      rw [← hs] at hsm ⊢
      have hdo := fun X => do_ac rs hr u huc s hsm X
      apply AW_drawE [some 54, some 55, some 56, some 57, some 58, some 59, some 60, some 61, some 62, some 63, some 64, some 53, some 65, some 66, some 12, none, some 13] [([false, false], _), ([true, false], _), ([true, true], _)] [none, none, none, none, none, none, none, none, none, none, none, none, none, none, some 0, some 1, none] 2 [(0, [false, false], [0]), (1, [false, false], [8]), (2, [false, false], [55]), (3, [false, false], [56]), (4, [false, false], [57]), (5, [false, false], [58]), (6, [false, false], [9]), (7, [false, false], [59, 0]), (8, [false, false], [61]), (9, [false, false], [11]), (10, [false, false], [54, 7, 0]), (11, [false, false], [64]), (12, [false, false], [53]), (13, [false, false], [53]), (14, [false, false], []), (15, [true, false], [12, 52]), (16, [true, true], [66]), (0, [true, false], [0]), (1, [true, false], [8]), (2, [true, false], [55]), (3, [true, false], [56]), (4, [true, false], [57]), (5, [true, false], [58]), (6, [true, false], [9]), (7, [true, false], [59, 0]), (8, [true, false], [61]), (9, [true, false], [11]), (10, [true, false], [54, 7, 0]), (11, [true, false], [64]), (12, [true, false], [53]), (13, [true, false], [53]), (13, [true, true], [53])] [_, _, _, _, _, _, _, _, _, _, _, _, _, _, _, _, _]
      case' hm => exact dr
      case' hn => rfl
      case' hok => rfl
      case' hlen => rfl
      case' hd => rfl
      case' h0 => rfl
      case' hstep =>
       simp only [DAllG, push_cast, Option.isSome_some, Option.isSome_none]
       repeat' apply And.intro
       all_goals (apply DOne_V; simp only [push_cast, Nat.reduceAdd, Nat.reduceSub, Nat.reduceMul, Nat.reduceLT, Nat.reduceLeDiff, Nat.reduceEqDiff, Int.reduceToNat, ↓reduceIte, hfl', hfg'] <;> first | exact rfl | omega | exact ⟨rfl, rfl⟩ | exact trivial | exact ⟨by omega, rfl⟩ | exact ⟨by omega, by omega, rfl⟩ | exact ⟨by omega, rfl, rfl⟩ | exact ⟨by omega, by omega, rfl, rfl⟩ | exact ⟨rfl, by omega, by omega, by omega, rfl⟩ | (refine (hdo _).to ?_; exact ⟨rfl, rfl⟩) | trace_state)
      case' hQ => skip
      simp only [push_cast, Nat.reduceAdd, Nat.reduceSub, Nat.reduceMul, Nat.reduceLT, Nat.reduceLeDiff, Nat.reduceEqDiff, Int.reduceToNat, ↓reduceIte]
      have hgs := fun h => p2.step hr huc (s := s) h
      refine cI (fun h4 => ?_) (fun h4 => ?_)
      · have hu2 := do_check (s := s) hr huc h4
        rw [exRow, if_neg (by simpa using h4)] at p3
        obtain ⟨v, hv⟩ : ∃ v, v = (doE rs u s).1 := ⟨_, rfl⟩
        have hgs := hgs h4
        rw [← hv] at hu2 p3 hgs ⊢
        have hvs := check_small hu2
        have hel := hgs.es
        refine (add2_ac H (.cells [.str t.name, .bool t.var, .sl .none (encTs t.args)]) (.cells [.sl .zero [], .sl .zero [], .bool false]) (.cells [.int .i64 s.1, .sl .none (encP s.2)]) (.cells [.str v.name, .bool v.var, .sl .none (encTs v.args)]) most g'.ts g'.es g'.wh v (fun x hx => ((check_iff x).1 (p2.ck x hx)).1) ((check_iff v).1 hu2).1 (by omega) (by have := p2.len; omega)).to ?_
        simp only [push_cast, Nat.reduceAdd, Nat.reduceSub, Nat.reduceMul, Nat.reduceLT, Nat.reduceLeDiff, Nat.reduceEqDiff, Int.reduceToNat, ↓reduceIte]
        refine cI (fun h5 => ?_) (fun h5 => ?_)
        · have hes : (exStep most i g' s v).es = g'.es ++ [⟨i, (addR most g'.ts v).1, s⟩] := by unfold exStep; rw [h5]; rfl
          have hel2 := p2.es
          apply AW_drawE [some 78, some 79, some 80, some 81, some 82, some 83, some 84, some 85, some 86, some 87, some 88, some 89, some 90, some 91, some 92, none] [([false, false], _), ([true, false], _), ([true, true], _)] [none, none, none, none, none, none, none, none, none, none, none, some 0, none, none, none, some 1] 2 [(0, [false, false], [8]), (1, [false, false], [8]), (2, [false, false], [79]), (3, [false, false], [80]), (4, [false, false], [81]), (5, [false, false], [82]), (6, [false, false], [9]), (7, [false, false], [14]), (8, [false, false], [11]), (9, [false, false], [84, 0, 0]), (10, [false, false], [87]), (11, [false, false], [83, 4]), (12, [true, false], [78]), (13, [true, false], [90]), (14, [true, false], [91]), (15, [true, false], [89, 2]), (0, [true, false], [8]), (1, [true, false], [8]), (2, [true, false], [79]), (3, [true, false], [80]), (4, [true, false], [81]), (6, [true, false], [9]), (7, [true, false], [14]), (8, [true, false], [11]), (9, [true, false], [84, 0, 0]), (12, [true, true], [78]), (13, [true, true], [90])] [_, _, _, _, _, _, _, _, _, _, _, _, _, _, _, _]
          case' hm => exact dr
          case' hn => rfl
          case' hok => rfl
          case' hlen => rfl
          case' hd => rfl
          case' h0 => rfl
          case' hstep =>
           simp only [DAllG, push_cast, Option.isSome_some, Option.isSome_none]
           repeat' apply And.intro
           all_goals (apply DOne_V; simp only [push_cast, Nat.reduceAdd, Nat.reduceSub, Nat.reduceMul, Nat.reduceLT, Nat.reduceLeDiff, Nat.reduceEqDiff, Int.reduceToNat, ↓reduceIte] <;> first | exact rfl | omega | exact ⟨rfl, rfl⟩ | exact trivial | exact ⟨by omega, rfl⟩ | exact ⟨by omega, by omega, rfl⟩ | exact ⟨by omega, rfl, rfl⟩ | exact ⟨by omega, by omega, rfl, rfl⟩ | (refine app1_L encE (sz := 4) (fun _ => rfl) (by intro x c hc; simp [AV.cells] at hc; rcases hc with rfl | rfl | rfl | rfl <;> rfl) _ (H.length + 1) g'.es ⟨i, (addR most g'.ts v).1, s⟩ _ rfl rfl (by exact (agetN _ _ 1).trans rfl) sl67 sz117 by117 zr117 rfl (by decide) (by decide) (by omega) ?_; exact ⟨rfl, rfl⟩) | trace_state)
          case' hQ => skip
          simp only [push_cast, Nat.reduceAdd, Nat.reduceSub, Nat.reduceMul, Nat.reduceLT, Nat.reduceLeDiff, Nat.reduceEqDiff, Int.reduceToNat, ↓reduceIte]
          repeat' first | refine ⟨by omega, ?_⟩ | refine cI (fun _ => ?_) (fun _ => ?_)
          refine loopW_n (j + 1, exStep most i g' s v) ⟨by simp only; omega, hgs, p3⟩ (by simp only; omega) ?_
          rw [hes]
          simp only [push_cast, Nat.reduceAdd, Nat.reduceSub, Nat.reduceMul, Nat.reduceLT, Nat.reduceLeDiff, Nat.reduceEqDiff, Int.reduceToNat, ↓reduceIte]
          exact ⟨⟨rfl, rfl, rfl⟩, ok_exX H t most _ _ _ _⟩
        · have hes : (exStep most i g' s v).es = g'.es := by unfold exStep; rw [Bool.eq_false_iff.2 h5]; rfl
          repeat' first | refine ⟨by omega, ?_⟩ | refine cI (fun _ => ?_) (fun _ => ?_)
          refine loopW_n (j + 1, exStep most i g' s v) ⟨by simp only; omega, hgs, p3⟩ (by simp only; omega) ?_
          rw [hes]
          simp only [push_cast, Nat.reduceAdd, Nat.reduceSub, Nat.reduceMul, Nat.reduceLT, Nat.reduceLeDiff, Nat.reduceEqDiff, Int.reduceToNat, ↓reduceIte]
          exact ⟨⟨rfl, rfl, rfl⟩, ok_exX H t most _ _ _ _⟩
      · rw [exRow, if_pos h4] at p3
        rw [p3, if_pos h4] at q6
        rw [q6]
        exact ⟨ToA.fgt (by simp only [push_cast, Nat.reduceAdd, Nat.reduceSub, Nat.reduceMul, Nat.reduceLT, Nat.reduceLeDiff, Nat.reduceEqDiff, Int.reduceToNat, ↓reduceIte, encGE, zeroG, encTs_nil, encL_nil]), by simp only [push_cast, Nat.reduceAdd, Nat.reduceSub, Nat.reduceMul, Nat.reduceLT, Nat.reduceLeDiff, Nat.reduceEqDiff, Int.reduceToNat, ↓reduceIte, encGE, zeroG, encTs_nil, encL_nil]⟩
    · rw [List.drop_of_length_le (show l.length ≤ j by omega)] at p3
      rw [p3] at q6
      have hes := p2.es
      have hne : g'.ts ≠ [] := fun e => by rw [e] at hil'; exact absurd hil' (by simp)
      repeat' first | refine ⟨by omega, ?_⟩ | refine cI (fun _ => ?_) (fun _ => ?_)
      refine loopW_n (i + 1, g') ⟨by simp only; omega, hne, p2.len, p2.ck, by simp only; omega, ?_⟩ (by simp only; omega) ?_
      · rw [q6]
        simp only [exRow, ne_eq, not_true_eq_false, if_false]
        rw [show most - (i + 1) = n by omega]
      · simp only [push_cast, Nat.reduceAdd, Nat.reduceSub, Nat.reduceMul, Nat.reduceLT, Nat.reduceLeDiff, Nat.reduceEqDiff, Int.reduceToNat, ↓reduceIte]
        exact ok_ex H t most g'
  · have hie : i = g.ts.length := by omega
    rw [hie, expF_end] at q6
    rw [q6]
    simp only [push_cast, Nat.reduceAdd, Nat.reduceSub, Nat.reduceMul, Nat.reduceLT, Nat.reduceLeDiff, Nat.reduceEqDiff, Int.reduceToNat, ↓reduceIte, encGE]
    rw [grS_T H.length q2]
    exact ToA.rowA H.length 25 3 (by rw [← grO_T _ q2]; exact aget0 _ _ _) (by rw [hfl, encTs_length]) (Nat.le_refl _) (flT_sc _ _) (by simp only [push_cast, Nat.reduceAdd, Nat.reduceSub, Nat.reduceMul, Nat.reduceLT, Nat.reduceLeDiff, Nat.reduceEqDiff, Int.reduceToNat, ↓reduceIte]) (by simp only [push_cast, Nat.reduceAdd, Nat.reduceSub, Nat.reduceMul, Nat.reduceLT, Nat.reduceLeDiff, Nat.reduceEqDiff, Int.reduceToNat, ↓reduceIte])
end Ab
set_option maxRecDepth 100000
namespace Ab
open Go Go.Proofs
theorem len64_ac (n : Nat) (hn : n ≤ 1) (H : List AObj) : ACall Tryz.prog 165 [.int .u64 (n : Nat)] H (fun r H' => r = .int .i64 (n : Nat) ∧ H' = H) := by
  rcases (show n = 0 ∨ n = 1 by omega) with rfl | rfl
  · refine ACall_V (H.length) 24 [.tmp 2] Tryz.func165 rfl rfl rfl ?_
    simp only [push_cast, Nat.reduceAdd, Nat.reduceSub, Nat.reduceMul, Nat.reduceLT, Nat.reduceLeDiff, Nat.reduceEqDiff, Int.reduceToNat, ↓reduceIte]
    refine cI (fun h => absurd h (by decide)) (fun _ => ?_)
    refine cI (fun h => absurd h (by decide)) (fun _ => ?_)
    refine cI (fun h => absurd h (by decide)) (fun _ => ?_)
    first | decide +kernel | trace_state
  · refine ACall_V (H.length) 24 [.tmp 2] Tryz.func165 rfl rfl rfl ?_
    simp only [push_cast, Nat.reduceAdd, Nat.reduceSub, Nat.reduceMul, Nat.reduceLT, Nat.reduceLeDiff, Nat.reduceEqDiff, Int.reduceToNat, ↓reduceIte]
    refine cI (fun h => absurd h (by decide)) (fun _ => ?_)
    refine cI (fun h => absurd h (by decide)) (fun _ => ?_)
    refine cI (fun h => absurd h (by decide)) (fun _ => ?_)
    first | decide +kernel | trace_state
theorem len1_ac (n : Nat) (hn : n ≤ 1) (H : List AObj) : ACall Tryz.prog 123 [.int .u64 (n : Nat)] H (fun r H' => r = .int .i64 (n : Nat) ∧ H' = H) := by
  refine ACall_V (H.length) 7 [.tmp 2] Tryz.func123 rfl rfl rfl ?_
  simp only [push_cast, Nat.reduceAdd, Nat.reduceSub, Nat.reduceMul, Nat.reduceLT, Nat.reduceLeDiff, Nat.reduceEqDiff, Int.reduceToNat, ↓reduceIte]
  refine (len64_ac n hn _).to ?_
  simp only [push_cast, Nat.reduceAdd, Nat.reduceSub, Nat.reduceMul, Nat.reduceLT, Nat.reduceLeDiff, Nat.reduceEqDiff, Int.reduceToNat, ↓reduceIte]
theorem ins1_ac (ts : List Term) (hn : ts.length ≤ 1) (H : List AObj) : ACall Tryz.prog 156 [.sl .none (encTs ts), .int .i64 0, .int .i64 (ts.length : Nat), .fn 87 []] H (fun r H' => r = .tup [] ∧ H' = H) := by
  refine ACall_V (H.length) 49 [] Tryz.func156 rfl rfl rfl ?_
  simp only [push_cast, Nat.reduceAdd, Nat.reduceSub, Nat.reduceMul, Nat.reduceLT, Nat.reduceLeDiff, Nat.reduceEqDiff, Int.reduceToNat, ↓reduceIte]
  refine ⟨by omega, ?_⟩
  refine AW_loopW (maskG 53 [0, 0, 0, 0, 4]) (fun (_ : Unit) => []) (fun _ => H) (fun _ => True) (fun _ => 0) () trivial (by simp only [push_cast, Nat.reduceAdd, Nat.reduceSub, Nat.reduceMul, Nat.reduceLT, Nat.reduceLeDiff, Nat.reduceEqDiff, Int.reduceToNat, ↓reduceIte]) (fun _ _ => ?_)
  simp only [push_cast, Nat.reduceAdd, Nat.reduceSub, Nat.reduceMul, Nat.reduceLT, Nat.reduceLeDiff, Nat.reduceEqDiff, Int.reduceToNat, ↓reduceIte]
  refine cI (fun h => absurd h (by omega)) (fun _ => ?_)
  first | (simp only [push_cast, Nat.reduceAdd, Nat.reduceSub, Nat.reduceMul, Nat.reduceLT, Nat.reduceLeDiff, Nat.reduceEqDiff, Int.reduceToNat, ↓reduceIte]; done) | trace_state
theorem pdq1_ac (ts : List Term) (k : Int) (hn : ts.length ≤ 1) (H : List AObj) : ACall Tryz.prog 122 [.sl .none (encTs ts), .int .i64 0, .int .i64 (ts.length : Nat), .int .i64 k, .fn 87 []] H (fun r H' => r = .tup [] ∧ H' = H) := by
  refine ACall_V (H.length) 143 [] Tryz.func122 rfl rfl rfl ?_
  simp only [push_cast, Nat.reduceAdd, Nat.reduceSub, Nat.reduceMul, Nat.reduceLT, Nat.reduceLeDiff, Nat.reduceEqDiff, Int.reduceToNat, ↓reduceIte]
  refine AW_loopW (maskG 148 [0, 0, 0, 0, 0, 5, 0]) (fun (_ : Unit) => []) (fun _ => H) (fun _ => True) (fun _ => 0) () trivial (by simp only [push_cast, Nat.reduceAdd, Nat.reduceSub, Nat.reduceMul, Nat.reduceLT, Nat.reduceLeDiff, Nat.reduceEqDiff, Int.reduceToNat, ↓reduceIte]) (fun _ _ => ?_)
  simp only [push_cast, Nat.reduceAdd, Nat.reduceSub, Nat.reduceMul, Nat.reduceLT, Nat.reduceLeDiff, Nat.reduceEqDiff, Int.reduceToNat, ↓reduceIte]
  refine ⟨by omega, ?_⟩
  refine cI (fun h => ?_) (fun h => absurd h (by omega))
  refine (ins1_ac ts hn _).to ?_
  first | (simp only [push_cast, Nat.reduceAdd, Nat.reduceSub, Nat.reduceMul, Nat.reduceLT, Nat.reduceLeDiff, Nat.reduceEqDiff, Int.reduceToNat, ↓reduceIte]; done) | trace_state
theorem sort1_ac (ts : List Term) (hn : ts.length ≤ 1) (H : List AObj) : ACall Tryz.prog 86 [.sl .none (encTs ts), .fn 87 []] H (fun r H' => r = .tup [] ∧ H' = H) := by
  refine ACall_V (H.length) 12 [] Tryz.func86 rfl rfl rfl ?_
  simp only [push_cast, Nat.reduceAdd, Nat.reduceSub, Nat.reduceMul, Nat.reduceLT, Nat.reduceLeDiff, Nat.reduceEqDiff, Int.reduceToNat, ↓reduceIte]
  refine ⟨by omega, ?_⟩
  refine (len1_ac ts.length hn _).to ?_
  simp only [push_cast, Nat.reduceAdd, Nat.reduceSub, Nat.reduceMul, Nat.reduceLT, Nat.reduceLeDiff, Nat.reduceEqDiff, Int.reduceToNat, ↓reduceIte]
  refine (pdq1_ac ts _ hn _).to ?_
  first | (simp only [push_cast, Nat.reduceAdd, Nat.reduceSub, Nat.reduceMul, Nat.reduceLT, Nat.reduceLeDiff, Nat.reduceEqDiff, Int.reduceToNat, ↓reduceIte]; done) | trace_state
end Ab
set_option maxRecDepth 100000
namespace Ab
open Go Go.Proofs
def exploreE (rs : List (Term × Term)) (t : Term) (most : Int) : GrP × Int := if bothP rs t ≠ 0 then (zeroG, bothP rs t) else if most < 1 ∨ 4096 < most then (zeroG, 2) else exploreF rs t most.toNat
theorem exploreX_ac (rs : List (Term × Term)) (hlen : rs.length < 1099511627776) (hb : BndR rs) (t : Term) (ht : t.bulk ≤ 1099511627775) (most : Int) (H : List AObj) :
    ACall Tryz.prog 37 [.sl .none (encL encRu rs), encT t, .int .i64 most] H (fun r H' => r = encGE (exploreE rs t most) ∧ H' = H) := by
  refine ACall_V (H.length) 26 [.cell 6 69, .tmp 7] Tryz.func37 rfl rfl rfl ?_
  simp only [push_cast, Nat.reduceAdd, Nat.reduceSub, Nat.reduceMul, Nat.reduceLT, Nat.reduceLeDiff, Nat.reduceEqDiff, Int.reduceToNat, ↓reduceIte]
  refine (both_ac rs hlen hb t ht _).to ?_
  simp only [push_cast, Nat.reduceAdd, Nat.reduceSub, Nat.reduceMul, Nat.reduceLT, Nat.reduceLeDiff, Nat.reduceEqDiff, Int.reduceToNat, ↓reduceIte]
  unfold exploreE
  refine cI (fun h => ?_) (fun h => ?_)
  · rw [if_neg (by simpa using h)]
    obtain ⟨h1, h2⟩ := both_ok h
    refine cI (fun h3 => ?_) (fun h3 => ?_)
    · rw [if_pos (.inl h3)]
      simp only [push_cast, Nat.reduceAdd, Nat.reduceSub, Nat.reduceMul, Nat.reduceLT, Nat.reduceLeDiff, Nat.reduceEqDiff, Int.reduceToNat, ↓reduceIte, encGE, zeroG, encTs_nil, encL_nil]
    · refine cI (fun h4 => ?_) (fun h4 => ?_)
      · rw [if_pos (.inr h4)]
        simp only [push_cast, Nat.reduceAdd, Nat.reduceSub, Nat.reduceMul, Nat.reduceLT, Nat.reduceLeDiff, Nat.reduceEqDiff, Int.reduceToNat, ↓reduceIte, encGE, zeroG, encTs_nil, encL_nil]
      · rw [if_neg (by omega)]
        have hmm : most = ((most.toNat : Nat) : Int) := by omega
        obtain ⟨m, hm⟩ : ∃ m, m = most.toNat := ⟨_, rfl⟩
        rw [← hm] at hmm ⊢
        subst hmm
        refine (explore_ac rs h1 t h2 m (by omega) (by omega) _).to ?_
        simp only [push_cast, Nat.reduceAdd, Nat.reduceSub, Nat.reduceMul, Nat.reduceLT, Nat.reduceLeDiff, Nat.reduceEqDiff, Int.reduceToNat, ↓reduceIte, encGE]
  · rw [if_pos h]
    simp only [push_cast, Nat.reduceAdd, Nat.reduceSub, Nat.reduceMul, Nat.reduceLT, Nat.reduceLeDiff, Nat.reduceEqDiff, Int.reduceToNat, ↓reduceIte, encGE, zeroG, encTs_nil, encL_nil]
def normsF (rs : List (Term × Term)) (ts : List Term) : List Term := ts.filter fun x => decide ((allS rs x).length = 0)
theorem normsF_snoc (rs : List (Term × Term)) (ts : List Term) (i : Nat) (h : i < ts.length) : normsF rs (ts.take (i + 1)) = normsF rs (ts.take i) ++ if (allS rs ts[i]).length = 0 then [ts[i]] else [] := by
  unfold normsF
  rw [List.take_succ_eq_append_getElem h, List.filter_append]
  congr 1
  by_cases hq : (allS rs ts[i]).length = 0
  · rw [if_pos hq, List.filter_cons, if_pos (by simpa using hq)]; rfl
  · rw [if_neg hq, List.filter_cons, if_neg (by simpa using hq)]; rfl
set_option maxHeartbeats 2000000 in
theorem normals1_ac (rs : List (Term × Term)) (hlen : rs.length < 1099511627776) (hb : BndR rs) (t : Term) (ht : t.bulk ≤ 1099511627775) (most : Int) (g : GrP) (hg : exploreE rs t most = (g, 0)) (hr : sysP rs = 0) (hck : ∀ x, x ∈ g.ts → checkP x = 0) (hl : g.ts.length < 1099511627776) (h1 : (normsF rs g.ts).length ≤ 1) (H : List AObj) :
    ACall Tryz.prog 39 [.sl .none (encL encRu rs), encT t, .int .i64 most] H (fun r H' => r = .tup [.sl .none (encTs (normsF rs g.ts)), .bool g.wh, .int .i64 0] ∧ H' = H) := by
  have hex := fun X => exploreX_ac rs hlen hb t ht most X
  rw [hg] at hex
  refine ACall_VA (H.length) 43 [.tmp 6, .tmp 7, .tmp 8] Tryz.func39 rfl rfl rfl ?_
  refine AW_reserve 1 ?_
  refine AW_of_W ?_
  simp only [push_cast, Nat.reduceAdd, Nat.reduceSub, Nat.reduceMul, Nat.reduceLT, Nat.reduceLeDiff, Nat.reduceEqDiff, Int.reduceToNat, ↓reduceIte]
  refine (hex _).to ?_
  simp only [push_cast, Nat.reduceAdd, Nat.reduceSub, Nat.reduceMul, Nat.reduceLT, Nat.reduceLeDiff, Nat.reduceEqDiff, Int.reduceToNat, ↓reduceIte, encGE]
  refine AW_loopW (maskG 46 [0, 8, 1, 13, 0, 0]) (fun (i : Nat) => [(27, .int .i64 i), (11, gSl H.length (encTs (normsF rs (g.ts.take i))))]) (fun i => H ++ [gTok 25 3 (encTs (normsF rs (g.ts.take i))), .cells [.str t.name, .bool t.var, .sl .none (encTs t.args)], .cells [.sl .none (encTs g.ts), .sl .none (encL encE g.es), .bool g.wh]]) (fun i => i ≤ g.ts.length) (fun i => g.ts.length - i) 0 (Nat.zero_le _) (by simp only [push_cast, Nat.reduceAdd, Nat.reduceSub, Nat.reduceMul, Nat.reduceLT, Nat.reduceLeDiff, Nat.reduceEqDiff, Int.reduceToNat, ↓reduceIte, List.take_zero, show normsF rs [] = [] from rfl, encTs_nil]) (fun i hi => ?_)
  simp only [push_cast, Nat.reduceAdd, Nat.reduceSub, Nat.reduceMul, Nat.reduceLT, Nat.reduceLeDiff, Nat.reduceEqDiff, Int.reduceToNat, ↓reduceIte]
  refine cI (fun h => ?_) (fun h => ?_)
  · have hil : i < g.ts.length := by omega
    have hst := normsF_snoc rs g.ts i hil
    have hnl : (normsF rs (g.ts.take i)).length ≤ g.ts.length := Nat.le_trans (List.length_filter_le _ _) (by rw [List.length_take]; omega)
    have huc := hck _ (List.getElem_mem hil)
    refine ⟨hil, ?_⟩
    refine (allSteps_ac rs (sys_B hr).1 (g.ts[i]'hil) (by have := check_small huc; omega) _).to ?_
    simp only [push_cast, Nat.reduceAdd, Nat.reduceSub, Nat.reduceMul, Nat.reduceLT, Nat.reduceLeDiff, Nat.reduceEqDiff, Int.reduceToNat, ↓reduceIte]
    refine cI (fun h2 => ?_) (fun h2 => ?_)
    · rw [if_pos (by omega)] at hst
      refine app1_T _ H.length (normsF rs (g.ts.take i)) (g.ts[i]'hil) _ rfl rfl (by exact aget0 _ _ _) sl23 sz25 by25 zr25 rfl (by decide) (by omega) ?_
      rw [← hst]
      simp only [push_cast, Nat.reduceAdd, Nat.reduceSub, Nat.reduceMul, Nat.reduceLT, Nat.reduceLeDiff, Nat.reduceEqDiff, Int.reduceToNat, ↓reduceIte]
      repeat' first | refine ⟨by omega, ?_⟩ | refine cI (fun _ => ?_) (fun _ => ?_)
      exact loopW_n (i + 1) (by omega) (by omega) (by simp only [push_cast, Nat.reduceAdd, Nat.reduceSub, Nat.reduceMul, Nat.reduceLT, Nat.reduceLeDiff, Nat.reduceEqDiff, Int.reduceToNat, ↓reduceIte])
    · rw [if_neg (by omega), List.append_nil] at hst
      rw [← hst]
      repeat' first | refine ⟨by omega, ?_⟩ | refine cI (fun _ => ?_) (fun _ => ?_)
      exact loopW_n (i + 1) (by omega) (by omega) (by simp only [push_cast, Nat.reduceAdd, Nat.reduceSub, Nat.reduceMul, Nat.reduceLT, Nat.reduceLeDiff, Nat.reduceEqDiff, Int.reduceToNat, ↓reduceIte])
  · rw [List.take_of_length_le (show g.ts.length ≤ i by omega)]
    have hso := fun X k => ACall.forget (args' := [.sl .none (encTs (normsF rs g.ts)), .fn 87 []]) (args := [gSl k (encTs (normsF rs g.ts)), .fn 87 []]) ⟨gSl_forget _ _, Forget.refl _, trivial⟩ (sort1_ac (normsF rs g.ts) h1 X)
    refine (hso _ _).to ?_
    simp only [push_cast, Nat.reduceAdd, Nat.reduceSub, Nat.reduceMul, Nat.reduceLT, Nat.reduceLeDiff, Nat.reduceEqDiff, Int.reduceToNat, ↓reduceIte]
    apply AW_drawE [some 43, some 44, some 45, some 6, some 7, some 8] [([], _)] [none, none, none, none, none, none] 0 [(0, [], [11]), (1, [], [9]), (2, [], [44]), (3, [], [43]), (4, [], [45]), (5, [], [])] [_, _, _, _, _, _]
    case' hm => exact dr
    case' hn => rfl
    case' hok => rfl
    case' hlen => rfl
    case' hd => rfl
    case' h0 => rfl
    case' hstep =>
     simp only [DAllG, push_cast, Option.isSome_some, Option.isSome_none]
     repeat' apply And.intro
     all_goals (apply DOne_V; simp only [push_cast, Nat.reduceAdd, Nat.reduceSub, Nat.reduceMul, Nat.reduceLT, Nat.reduceLeDiff, Nat.reduceEqDiff, Int.reduceToNat, ↓reduceIte] <;> first | exact rfl | omega | exact ⟨rfl, rfl⟩ | exact trivial | exact ⟨by omega, rfl⟩ | exact ⟨by omega, by omega, rfl⟩ | exact ⟨by omega, rfl, rfl⟩ | exact ⟨by omega, by omega, rfl, rfl⟩ | skip)
    case' hQ => skip
    simp only [push_cast, Nat.reduceAdd, Nat.reduceSub, Nat.reduceMul, Nat.reduceLT, Nat.reduceLeDiff, Nat.reduceEqDiff, Int.reduceToNat, ↓reduceIte]
end Ab
set_option maxRecDepth 100000
namespace Ab
open Go Go.Proofs
def dxA : Term := .mk [97] false []
def dxB : Term := .mk [98] false []
def dxC : Term := .mk [99] false []
def dxR : List (Term × Term) := [(dxA, dxB), (dxA, dxC), (dxB, dxA)]
theorem dx_ck : checkP dxA = 0 ∧ checkP dxB = 0 ∧ checkP dxC = 0 := by
  have h1 : isNameP [97] true = true ∧ isNameP [98] true = true ∧ isNameP [99] true = true := by decide +kernel
  refine ⟨?_, ?_, ?_⟩ <;> rw [check_iff] <;> simp [dxA, dxB, dxC, formedP_mk, fitsP, Term.size_mk, Term.depth_mk, h1]
theorem dx_rules : rulesP dxR = 0 := by
  obtain ⟨h1, h2, h3⟩ := dx_ck
  simp [rulesP, dxR, rT, firstErr, h1, h2, h3]
theorem dx_nodes : nodesL (rT dxR) = [([97], 0), ([98], 0), ([97], 0), ([99], 0), ([98], 0), ([97], 0)] := by
  simp [dxR, rT, dxA, dxB, dxC, nodesL, ndT, Term.mk_name, Term.mk_var, Term.mk_args]
theorem dx_ar : arB dxR = false ∧ (arE dxR).2.any (fun s => markedP s.1) = false := by
  unfold arB arE
  rw [dx_nodes]
  decide +kernel
theorem dx_extra : dxR.any extraP = false := by
  simp [dxR, extraP, dxA, dxB, dxC, Term.mk_var, varsP, collectP_mk]
theorem dx_sys : sysP dxR = 0 := by
  unfold sysP
  rw [dx_rules, dx_ar.1, dx_ar.2, dx_extra]
  simp
theorem dx_both : bothP dxR dxA = 0 := by
  unfold bothP
  rw [dx_sys, dx_ck.1]
  simp
theorem dx_S : allS dxR dxA = [(0, []), (1, [])] ∧ allS dxR dxB = [(2, [])] ∧ allS dxR dxC = [] := by
  refine ⟨?_, ?_, ?_⟩ <;> simp [allS, allI, walkT, walkL, Term.args, dxR, atV, atF, dxA, dxB, dxC, matchP, matchTs_nil, clash, Term.mk_name, Term.mk_var, Term.mk_args]
theorem dx_do : doE dxR dxA (0, []) = (dxB, 0) ∧ doE dxR dxA (1, []) = (dxC, 0) ∧ doE dxR dxB (2, []) = (dxA, 0) := by
  have f1 : findE dxR dxA (0, []) = ([], 0) ∧ findE dxR dxA (1, []) = ([], 0) ∧ findE dxR dxB (2, []) = ([], 0) := by
    refine ⟨?_, ?_, ?_⟩ <;> simp [findE, dxR, atP, ruleN, dxA, dxB, dxC, matchP, matchTs_nil, clash, Term.mk_name, Term.mk_var, Term.mk_args]
  refine ⟨?_, ?_, ?_⟩
  · rw [do_alt, f1.1]
    have : rhsP dxR dxA (0, []) = dxB := by unfold rhsP; rw [f1.1]; simp [ruleN, dxR, dxB, applyP_mk]
    rw [this]
    simp [dxA, dxB, putP, fitsP, Term.size_mk, Term.depth_mk]
  · rw [do_alt, f1.2.1]
    have : rhsP dxR dxA (1, []) = dxC := by unfold rhsP; rw [f1.2.1]; simp [ruleN, dxR, dxC, applyP_mk]
    rw [this]
    simp [dxA, dxC, putP, fitsP, Term.size_mk, Term.depth_mk]
  · rw [do_alt, f1.2.2]
    have : rhsP dxR dxB (2, []) = dxA := by unfold rhsP; rw [f1.2.2]; simp [ruleN, dxR, dxA, applyP_mk]
    rw [this]
    simp [dxA, dxB, putP, fitsP, Term.size_mk, Term.depth_mk]
def dxG : GrP := ⟨[dxA, dxB, dxC], [⟨0, 1, (0, [])⟩, ⟨0, 2, (1, [])⟩, ⟨1, 0, (2, [])⟩], true⟩
theorem dx_ne : ¬ dxB = dxA ∧ ¬ dxC = dxA ∧ ¬ dxC = dxB ∧ ¬ dxA = dxB := by
  refine ⟨fun e => ?_, fun e => ?_, fun e => ?_, fun e => ?_⟩ <;> (have h := congrArg Term.name e; simp [dxA, dxB, dxC, Term.mk_name] at h)
theorem dx_ex : exploreF dxR dxA 10 = (dxG, 0) := by
  obtain ⟨s1, s2, s3⟩ := dx_S
  obtain ⟨d1, d2, d3⟩ := dx_do
  obtain ⟨n1, n2, n3, n4⟩ := dx_ne
  simp [exploreF, expF, s1, s2, s3, exRow, d1, d2, d3, exStep, addTs, addR, addW, n1, n2, n3, n4, dxG, List.idxOf_cons]
theorem dx_exE : exploreE dxR dxA 10 = (dxG, 0) := by
  unfold exploreE
  rw [dx_both]
  simpa using dx_ex
theorem dx_norm : normsF dxR dxG.ts = [dxC] := by
  obtain ⟨s1, s2, s3⟩ := dx_S
  simp [normsF, dxG, s1, s2, s3]
theorem dx_B : BndR dxR ∧ dxR.length = 3 ∧ dxA.bulk = 2 := by
  refine ⟨fun r hr => ?_, rfl, ?_⟩
  · simp only [dxR, List.mem_cons, List.not_mem_nil, or_false] at hr
    rcases hr with rfl | rfl | rfl <;> simp [dxA, dxB, dxC, Term.bulk_mk]
  · simp [dxA, Term.bulk_mk]
end Ab
set_option maxRecDepth 100000
namespace Ab
open Go Go.Proofs
@[reducible] def lgL (H : List AObj) (l0 l1 l2 : Int) : List AObj :=
  [.tok 3 1 2, .tok 3 1 1, .dead, .cells [.str dxA.name, .bool dxA.var, .sl .none (encTs dxA.args)], .cells [.sl .none (encTs dxG.ts), .sl .none (encL encE dxG.es), .bool true],
   .cells [.sl (.own H.length) [.int .i64 1, .int .i64 2], .sl (.own (H.length + 1)) [.int .i64 0], .sl .zero []], .cells [.arr (H.length + 5) 0 3],
   .cells [.int .i64 l0, .int .i64 l1, .int .i64 l2], .cells [.arr (H.length + 7) 0 3], .cells [.fn 84 [.ptr (H.length + 8) 0, .ptr (H.length + 6) 0, .ptr (H.length + 9) 0]]]
theorem osc_lgL (n : Nat) (H : List AObj) (l0 l1 l2 : Int) (hn : H.length + 10 ≤ n) : ∀ o, o ∈ lgL H l0 l1 l2 → OScoped n o := by
  intro o ho
  simp only [List.mem_cons, List.not_mem_nil, or_false] at ho
  rcases ho with rfl | rfl | rfl | rfl | rfl | rfl | rfl | rfl | rfl | rfl
  · exact trivial
  · exact trivial
  · exact trivial
  · exact ⟨trivial, trivial, scoped_encTs _ dxA.args, trivial⟩
  · exact ⟨scoped_encTs _ dxG.ts, of_eq_true (scopedE _ dxG.es), trivial, trivial⟩
  · simp [OScoped, ScopedL, Scoped]; omega
  · simp [OScoped, ScopedL, Scoped]; omega
  · simp [OScoped, ScopedL, Scoped]
  · simp [OScoped, ScopedL, Scoped]; omega
  · simp [OScoped, ScopedL, Scoped]; omega
theorem ok_lg (H : List AObj) (a0 a1 a2 b0 b1 b2 : Int) : OutOk (H ++ lgL H a0 a1 a2) (H ++ lgL H b0 b1 b2) (H.length + 10) := by
  have h := outok_ex (H := H) (L := lgL H a0 a1 a2) (L' := lgL H b0 b1 b2) (Y := []) (m := H.length + 10) rfl rfl (fun i o h => .inr (osc_lgL _ H b0 b1 b2 (Nat.le_refl _) o (List.mem_of_getElem? h)))
  simpa using h
theorem visit0_ac (H : List AObj) : ACall Tryz.prog 84 [.int .i64 0, .ptr (H.length + 8) 0, .ptr (H.length + 6) 0, .ptr (H.length + 9) 0] (H ++ lgL H (-1) (-1) 0) (fun r H' => r = .bool false ∧ H' = H ++ lgL H (-1) (-1) 0) := by
  refine ACall_V (H.length + 10) 43 [.tmp 5] Tryz.func84 rfl rfl rfl ?_
  simp only [push_cast, Nat.reduceAdd, Nat.reduceSub, Nat.reduceMul, Nat.reduceLT, Nat.reduceLeDiff, Nat.reduceEqDiff, Int.reduceToNat, ↓reduceIte]
  refine ⟨by decide, cI (fun h => absurd h (by decide)) (fun _ => ?_)⟩
  exact ⟨by decide, ok_lg H _ _ _ _ _ _, by decide⟩
theorem visit1_ac (H : List AObj) : ACall Tryz.prog 84 [.int .i64 1, .ptr (H.length + 8) 0, .ptr (H.length + 6) 0, .ptr (H.length + 9) 0] (H ++ lgL H (-1) 0 0) (fun r H' => r = .bool false ∧ H' = H ++ lgL H (-1) (-1) 0) := by
  refine ACall_V (H.length + 10) 43 [.tmp 5] Tryz.func84 rfl rfl rfl ?_
  simp only [push_cast, Nat.reduceAdd, Nat.reduceSub, Nat.reduceMul, Nat.reduceLT, Nat.reduceLeDiff, Nat.reduceEqDiff, Int.reduceToNat, ↓reduceIte]
  refine ⟨by decide, by decide, by decide, ?_⟩
  refine AW_loopW (maskG 47 [0, 0, 1, 2, 18, 0, 0]) (fun (_ : Unit) => [(27, .int .i64 0), (6, .int .i64 0)]) (fun _ => H ++ lgL H (-1) (-1) 0) (fun _ => True) (fun _ => 0) () trivial (by simp only [push_cast, Nat.reduceAdd, Nat.reduceSub, Nat.reduceMul, Nat.reduceLT, Nat.reduceLeDiff, Nat.reduceEqDiff, Int.reduceToNat, ↓reduceIte]; exact ok_lg H _ _ _ _ _ _) (fun _ _ => ?_)
  simp only [push_cast, Nat.reduceAdd, Nat.reduceSub, Nat.reduceMul, Nat.reduceLT, Nat.reduceLeDiff, Nat.reduceEqDiff, Int.reduceToNat, ↓reduceIte]
  refine cI (fun _ => ?_) (fun h => absurd h (by decide))
  refine ⟨by simp [Uni, AV.cells], by decide, by decide, ?_⟩
  refine (visit0_ac H).to ?_
  simp only [push_cast, Nat.reduceAdd, Nat.reduceSub, Nat.reduceMul, Nat.reduceLT, Nat.reduceLeDiff, Nat.reduceEqDiff, Int.reduceToNat, ↓reduceIte]
  exact ok_lg H _ _ _ _ _ _
theorem visit2_ac (H : List AObj) : ACall Tryz.prog 84 [.int .i64 0, .ptr (H.length + 8) 0, .ptr (H.length + 6) 0, .ptr (H.length + 9) 0] (H ++ lgL H 0 0 0) (fun r H' => r = .bool false ∧ H' = H ++ lgL H (-1) (-1) 0) := by
  refine ACall_V (H.length + 10) 43 [.tmp 5] Tryz.func84 rfl rfl rfl ?_
  simp only [push_cast, Nat.reduceAdd, Nat.reduceSub, Nat.reduceMul, Nat.reduceLT, Nat.reduceLeDiff, Nat.reduceEqDiff, Int.reduceToNat, ↓reduceIte]
  refine ⟨by decide, by decide, by decide, ?_⟩
  refine AW_loopW (maskG 47 [0, 0, 1, 2, 18, 0, 0]) (fun (_ : Unit) => [(27, .int .i64 0), (6, .int .i64 0)]) (fun _ => H ++ lgL H (-1) 0 0) (fun _ => True) (fun _ => 0) () trivial (by simp only [push_cast, Nat.reduceAdd, Nat.reduceSub, Nat.reduceMul, Nat.reduceLT, Nat.reduceLeDiff, Nat.reduceEqDiff, Int.reduceToNat, ↓reduceIte]; exact ok_lg H _ _ _ _ _ _) (fun _ _ => ?_)
  simp only [push_cast, Nat.reduceAdd, Nat.reduceSub, Nat.reduceMul, Nat.reduceLT, Nat.reduceLeDiff, Nat.reduceEqDiff, Int.reduceToNat, ↓reduceIte]
  refine cI (fun _ => ?_) (fun h => absurd h (by decide))
  refine ⟨by simp [Uni, AV.cells], by decide, by decide, ?_⟩
  refine (visit1_ac H).to ?_
  simp only [push_cast, Nat.reduceAdd, Nat.reduceSub, Nat.reduceMul, Nat.reduceLT, Nat.reduceLeDiff, Nat.reduceEqDiff, Int.reduceToNat, ↓reduceIte]
  exact ok_lg H _ _ _ _ _ _
theorem dx_get : (∀ h, dxG.es[0]'h = ⟨0, 1, (0, [])⟩) ∧ (∀ h, dxG.es[1]'h = ⟨0, 2, (1, [])⟩) ∧ (∀ h, dxG.es[2]'h = ⟨1, 0, (2, [])⟩) := ⟨fun _ => rfl, fun _ => rfl, fun _ => rfl⟩
def nxF (i : Nat) (k : Int) : List Int := ((dxG.es.take i).filter fun e => decide (e.fr = k)).map (·.to)
theorem nx_0 : nxF 0 0 = [] ∧ nxF 0 1 = [] ∧ nxF 1 0 = [1] ∧ nxF 1 1 = [] ∧ nxF 2 0 = [1, 2] ∧ nxF 2 1 = [] ∧ nxF 3 0 = [1, 2] ∧ nxF 3 1 = [0] := by decide
set_option maxHeartbeats 2000000 in
theorem longestX_ac (H : List AObj) : ACall Tryz.prog 38 [.sl .none (encL encRu dxR), encT dxA, .int .i64 10] H (fun r H' => r = .tup [.int .i64 0, .bool false, .int .i64 0] ∧ H' = H) := by
  have hex := fun X => exploreX_ac dxR (by rw [dx_B.2.1]; decide) dx_B.1 dxA (by rw [dx_B.2.2]; decide) 10 X
  rw [dx_exE] at hex
  have hts : dxG.ts.length = 3 := rfl
  have hes : dxG.es.length = 3 := rfl
  have hwh : dxG.wh = true := rfl
  obtain ⟨g0, g1, g2⟩ := dx_get
  refine ACall_VA (H.length) 65 [.tmp 6, .tmp 7, .tmp 8] Tryz.func38 rfl rfl rfl ?_
  refine AW_reserve 3 ?_
  refine AW_of_W ?_
  simp only [push_cast, Nat.reduceAdd, Nat.reduceSub, Nat.reduceMul, Nat.reduceLT, Nat.reduceLeDiff, Nat.reduceEqDiff, Int.reduceToNat, ↓reduceIte]
  refine (hex _).to ?_
  simp only [push_cast, Nat.reduceAdd, Nat.reduceSub, Nat.reduceMul, Nat.reduceLT, Nat.reduceLeDiff, Nat.reduceEqDiff, Int.reduceToNat, ↓reduceIte, encGE, hts, hes, hwh]
  refine AOp_make1 3 _ _ _ rfl rfl sl121 sz48 by48 zr48 rfl (by decide) (by decide) ?_
  simp only [push_cast, Nat.reduceAdd, Nat.reduceSub, Nat.reduceMul, Nat.reduceLT, Nat.reduceLeDiff, Nat.reduceEqDiff, Int.reduceToNat, ↓reduceIte]
  have hencP : ∀ l : List Int, encL (fun i : Int => AV.int .i64 i) l = encP l := fun _ => rfl
  refine AW_loopW (maskG 68 [9, 1, 24, 0, 0]) (fun (i : Nat) => [(38, .int .i64 i)]) (fun i => H ++ [gTok 3 1 (encP (nxF i 0)), gTok 3 1 (encP (nxF i 1)), .dead, .cells [.str dxA.name, .bool dxA.var, .sl .none (encTs dxA.args)], .cells [.sl .none (encTs dxG.ts), .sl .none (encL encE dxG.es), .bool true], .cells [gSl H.length (encP (nxF i 0)), gSl (H.length + 1) (encP (nxF i 1)), .sl .zero []], .cells [.arr (H.length + 5) 0 3]]) (fun i => i ≤ 3) (fun i => 3 - i) 0 (Nat.zero_le _) (by simp only [push_cast, Nat.reduceAdd, Nat.reduceSub, Nat.reduceMul, Nat.reduceLT, Nat.reduceLeDiff, Nat.reduceEqDiff, Int.reduceToNat, ↓reduceIte, nx_0.1, nx_0.2.1]; first | done | rfl) (fun i hi => ?_)
  obtain ⟨a1, a2, a3, a4, a5, a6, a7, a8⟩ := nx_0
  simp only [push_cast, Nat.reduceAdd, Nat.reduceSub, Nat.reduceMul, Nat.reduceLT, Nat.reduceLeDiff, Nat.reduceEqDiff, Int.reduceToNat, ↓reduceIte, hes]
  refine cI (fun h => ?_) (fun h => ?_)
  · match i, hi, h with
    | 0, _, _ =>
      refine ⟨by decide, ?_⟩
      simp only [push_cast, Nat.reduceAdd, Nat.reduceSub, Nat.reduceMul, Nat.reduceLT, Nat.reduceLeDiff, Nat.reduceEqDiff, Int.reduceToNat, ↓reduceIte, g0]
      apply AW_drawE [some 42, some 43, some 44, some 45, some 46, some 47, some 48, some 49, some 50, some 51, some 52, some 53, some 54, none] [([false, false], _), ([true, false], _), ([true, true], _)] [none, none, none, none, none, none, none, none, none, none, none, some 0, none, some 1] 2 [(0, [false, false], [11]), (1, [false, false], [13]), (2, [false, false], [43]), (3, [false, false], [11]), (4, [false, false], [13]), (5, [false, false], [46]), (6, [false, false], [45, 1]), (7, [false, false], [48]), (8, [false, false], [13]), (9, [false, false], [50]), (10, [false, false], [51]), (11, [false, false], [49, 2]), (12, [true, false], [42, 1]), (13, [true, false], [53, 0]), (0, [true, false], [11]), (1, [true, false], [13]), (2, [true, false], [43]), (3, [true, false], [11]), (4, [true, false], [13]), (5, [true, false], [46]), (6, [true, false], [45, 1]), (8, [true, false], [13]), (9, [true, false], [50])] [_, _, _, _, _, _, _, _, _, _, _, _, _, _]
      case' hm => exact dr
      case' hn => rfl
      case' hok => rfl
      case' hlen => rfl
      case' hd => rfl
      case' h0 => rfl
      case' hstep =>
       simp only [DAllG, push_cast, Option.isSome_some, Option.isSome_none]
       repeat' apply And.intro
       all_goals (apply DOne_V; simp only [push_cast, Nat.reduceAdd, Nat.reduceSub, Nat.reduceMul, Nat.reduceLT, Nat.reduceLeDiff, Nat.reduceEqDiff, Int.reduceToNat, ↓reduceIte] <;> first | exact rfl | omega | exact ⟨rfl, rfl⟩ | exact trivial | exact ⟨by omega, rfl⟩ | exact ⟨by omega, by omega, rfl⟩ | exact ⟨by omega, rfl, rfl⟩ | exact ⟨by omega, by omega, rfl, rfl⟩ | (refine app1_L (fun i : Int => AV.int .i64 i) (sz := 1) (fun _ => rfl) (by intro x c hc; simp [AV.cells] at hc; subst hc; rfl) _ H.length (nxF 0 0) 1 _ rfl rfl (by exact aget0 _ _ _) sl48 sz3 by3 zr3 rfl (by decide) (by decide) (by decide) ?_; exact ⟨rfl, rfl⟩) | exact ⟨by decide, by decide, rfl⟩)
      case' hQ => skip
      have e : nxF 0 0 ++ [1] = nxF 1 0 := by decide
      rw [e, hencP]
      simp only [push_cast, Nat.reduceAdd, Nat.reduceSub, Nat.reduceMul, Nat.reduceLT, Nat.reduceLeDiff, Nat.reduceEqDiff, Int.reduceToNat, ↓reduceIte]
      repeat' first | refine ⟨by omega, ?_⟩ | refine cI (fun _ => ?_) (fun _ => ?_)
      refine loopW_n 1 (by omega) (by omega) ?_
      rw [show nxF 1 1 = nxF 0 1 by decide]
      simp only [push_cast, Nat.reduceAdd, Nat.reduceSub, Nat.reduceMul, Nat.reduceLT, Nat.reduceLeDiff, Nat.reduceEqDiff, Int.reduceToNat, ↓reduceIte]
    | 1, _, _ =>
      refine ⟨by decide, ?_⟩
      simp only [push_cast, Nat.reduceAdd, Nat.reduceSub, Nat.reduceMul, Nat.reduceLT, Nat.reduceLeDiff, Nat.reduceEqDiff, Int.reduceToNat, ↓reduceIte, g1]
      apply AW_drawE [some 42, some 43, some 44, some 45, some 46, some 47, some 48, some 49, some 50, some 51, some 52, some 53, some 54, none] [([false, false], _), ([true, false], _), ([true, true], _)] [none, none, none, none, none, none, none, none, none, none, none, some 0, none, some 1] 2 [(0, [false, false], [11]), (1, [false, false], [13]), (2, [false, false], [43]), (3, [false, false], [11]), (4, [false, false], [13]), (5, [false, false], [46]), (6, [false, false], [45, 1]), (7, [false, false], [48]), (8, [false, false], [13]), (9, [false, false], [50]), (10, [false, false], [51]), (11, [false, false], [49, 2]), (12, [true, false], [42, 1]), (13, [true, false], [53, 0]), (0, [true, false], [11]), (1, [true, false], [13]), (2, [true, false], [43]), (3, [true, false], [11]), (4, [true, false], [13]), (5, [true, false], [46]), (6, [true, false], [45, 1]), (8, [true, false], [13]), (9, [true, false], [50])] [_, _, _, _, _, _, _, _, _, _, _, _, _, _]
      case' hm => exact dr
      case' hn => rfl
      case' hok => rfl
      case' hlen => rfl
      case' hd => rfl
      case' h0 => rfl
      case' hstep =>
       simp only [DAllG, push_cast, Option.isSome_some, Option.isSome_none]
       repeat' apply And.intro
       all_goals (apply DOne_V; simp only [push_cast, Nat.reduceAdd, Nat.reduceSub, Nat.reduceMul, Nat.reduceLT, Nat.reduceLeDiff, Nat.reduceEqDiff, Int.reduceToNat, ↓reduceIte] <;> first | exact rfl | omega | exact ⟨rfl, rfl⟩ | exact trivial | exact ⟨by omega, rfl⟩ | exact ⟨by omega, by omega, rfl⟩ | exact ⟨by omega, rfl, rfl⟩ | exact ⟨by omega, by omega, rfl, rfl⟩ | (refine app1_L (fun i : Int => AV.int .i64 i) (sz := 1) (fun _ => rfl) (by intro x c hc; simp [AV.cells] at hc; subst hc; rfl) _ H.length (nxF 1 0) 2 _ rfl rfl (by exact aget0 _ _ _) sl48 sz3 by3 zr3 rfl (by decide) (by decide) (by decide) ?_; exact ⟨rfl, rfl⟩) | exact ⟨by decide, by decide, rfl⟩)
      case' hQ => skip
      have e : nxF 1 0 ++ [2] = nxF 2 0 := by decide
      rw [e, hencP]
      simp only [push_cast, Nat.reduceAdd, Nat.reduceSub, Nat.reduceMul, Nat.reduceLT, Nat.reduceLeDiff, Nat.reduceEqDiff, Int.reduceToNat, ↓reduceIte]
      repeat' first | refine ⟨by omega, ?_⟩ | refine cI (fun _ => ?_) (fun _ => ?_)
      refine loopW_n 2 (by omega) (by omega) ?_
      rw [show nxF 2 1 = nxF 1 1 by decide]
      simp only [push_cast, Nat.reduceAdd, Nat.reduceSub, Nat.reduceMul, Nat.reduceLT, Nat.reduceLeDiff, Nat.reduceEqDiff, Int.reduceToNat, ↓reduceIte]
    | 2, _, _ =>
      refine ⟨by decide, ?_⟩
      simp only [push_cast, Nat.reduceAdd, Nat.reduceSub, Nat.reduceMul, Nat.reduceLT, Nat.reduceLeDiff, Nat.reduceEqDiff, Int.reduceToNat, ↓reduceIte, g2]
      apply AW_drawE [some 42, some 43, some 44, some 45, some 46, some 47, some 48, some 49, some 50, some 51, some 52, some 53, some 54, none] [([false, false], _), ([true, false], _), ([true, true], _)] [none, none, none, none, none, none, none, none, none, none, none, some 0, none, some 1] 2 [(0, [false, false], [11]), (1, [false, false], [13]), (2, [false, false], [43]), (3, [false, false], [11]), (4, [false, false], [13]), (5, [false, false], [46]), (6, [false, false], [45, 1]), (7, [false, false], [48]), (8, [false, false], [13]), (9, [false, false], [50]), (10, [false, false], [51]), (11, [false, false], [49, 2]), (12, [true, false], [42, 1]), (13, [true, false], [53, 0]), (0, [true, false], [11]), (1, [true, false], [13]), (2, [true, false], [43]), (3, [true, false], [11]), (4, [true, false], [13]), (5, [true, false], [46]), (6, [true, false], [45, 1]), (8, [true, false], [13]), (9, [true, false], [50])] [_, _, _, _, _, _, _, _, _, _, _, _, _, _]
      case' hm => exact dr
      case' hn => rfl
      case' hok => rfl
      case' hlen => rfl
      case' hd => rfl
      case' h0 => rfl
      case' hstep =>
       simp only [DAllG, push_cast, Option.isSome_some, Option.isSome_none]
       repeat' apply And.intro
       all_goals (apply DOne_V; simp only [push_cast, Nat.reduceAdd, Nat.reduceSub, Nat.reduceMul, Nat.reduceLT, Nat.reduceLeDiff, Nat.reduceEqDiff, Int.reduceToNat, ↓reduceIte] <;> first | exact rfl | omega | exact ⟨rfl, rfl⟩ | exact trivial | exact ⟨by omega, rfl⟩ | exact ⟨by omega, by omega, rfl⟩ | exact ⟨by omega, rfl, rfl⟩ | exact ⟨by omega, by omega, rfl, rfl⟩ | (refine app1_L (fun i : Int => AV.int .i64 i) (sz := 1) (fun _ => rfl) (by intro x c hc; simp [AV.cells] at hc; subst hc; rfl) _ (H.length + 1) (nxF 2 1) 0 _ rfl rfl (by exact (agetN _ _ 1).trans rfl) sl48 sz3 by3 zr3 rfl (by decide) (by decide) (by decide) ?_; exact ⟨rfl, rfl⟩) | exact ⟨by decide, by decide, rfl⟩)
      case' hQ => skip
      have e : nxF 2 1 ++ [0] = nxF 3 1 := by decide
      rw [e, hencP]
      simp only [push_cast, Nat.reduceAdd, Nat.reduceSub, Nat.reduceMul, Nat.reduceLT, Nat.reduceLeDiff, Nat.reduceEqDiff, Int.reduceToNat, ↓reduceIte]
      repeat' first | refine ⟨by omega, ?_⟩ | refine cI (fun _ => ?_) (fun _ => ?_)
      refine loopW_n 3 (by omega) (by omega) ?_
      rw [show nxF 3 0 = nxF 2 0 by decide]
      simp only [push_cast, Nat.reduceAdd, Nat.reduceSub, Nat.reduceMul, Nat.reduceLT, Nat.reduceLeDiff, Nat.reduceEqDiff, Int.reduceToNat, ↓reduceIte]
  · have h3 : i = 3 := by omega
    subst h3
    simp only [push_cast, Nat.reduceAdd, Nat.reduceSub, Nat.reduceMul, Nat.reduceLT, Nat.reduceLeDiff, Nat.reduceEqDiff, Int.reduceToNat, ↓reduceIte, a7, a8]
    refine AOp_make1 3 _ _ _ rfl rfl sl48 sz3 by3 zr3 rfl (by decide) (by decide) ?_
    simp only [push_cast, Nat.reduceAdd, Nat.reduceSub, Nat.reduceMul, Nat.reduceLT, Nat.reduceLeDiff, Nat.reduceEqDiff, Int.reduceToNat, ↓reduceIte]
    refine (visit2_ac H).to ?_
    first | (simp only [push_cast, Nat.reduceAdd, Nat.reduceSub, Nat.reduceMul, Nat.reduceLT, Nat.reduceLeDiff, Nat.reduceEqDiff, Int.reduceToNat, ↓reduceIte]; done) | (simp only [push_cast, Nat.reduceAdd, Nat.reduceSub, Nat.reduceMul, Nat.reduceLT, Nat.reduceLeDiff, Nat.reduceEqDiff, Int.reduceToNat, ↓reduceIte]; trace_state)
end Ab
set_option maxRecDepth 100000
namespace Ab
open Go Go.Proofs
theorem sameTerms_ac (a b : List Term) (h1 : a.length < 1099511627776) (h2 : b.length < 1099511627776) (h3 : ∀ x, x ∈ a → x.bulk ≤ 1099511627775) (h4 : ∀ x, x ∈ b → x.bulk ≤ 1099511627775) (H : List AObj) :
    ACall Tryz.prog 16 [.sl .none (encTs a), .sl .none (encTs b)] H (fun r H' => r = .bool (decide (a = b)) ∧ H' = H) := by
  refine ACall_V (H.length) 25 [.tmp 4] Tryz.func16 rfl rfl rfl ?_
  simp only [push_cast, Nat.reduceAdd, Nat.reduceSub, Nat.reduceMul, Nat.reduceLT, Nat.reduceLeDiff, Nat.reduceEqDiff, Int.reduceToNat, ↓reduceIte]
  refine cI (fun hl => ?_) (fun hl => ?_)
  · have hl : a.length = b.length := by omega
    refine AW_loopW (maskG 27 [0, 0, 10, 0]) (fun (i : Nat) => [(13, .int .i64 i)]) (fun _ => H) (fun i => i ≤ a.length ∧ a.take i = b.take i) (fun i => a.length - i) 0 ⟨Nat.zero_le _, rfl⟩ (by simp only [push_cast, Nat.reduceAdd, Nat.reduceSub, Nat.reduceMul, Nat.reduceLT, Nat.reduceLeDiff, Nat.reduceEqDiff, Int.reduceToNat, ↓reduceIte]) (fun i hi => ?_)
    simp only [push_cast, Nat.reduceAdd, Nat.reduceSub, Nat.reduceMul, Nat.reduceLT, Nat.reduceLeDiff, Nat.reduceEqDiff, Int.reduceToNat, ↓reduceIte]
    refine cI (fun h => ?_) (fun h => ?_)
    · repeat refine ⟨by omega, ?_⟩
      have hia : i < a.length := by omega
      have hib : i < b.length := by omega
      have heq := fun X => equalR_ac (a[i]'hia) (b[i]'hib) (h3 _ (List.getElem_mem hia)) (h4 _ (List.getElem_mem hib)) X
      apply AW_drawE [some 16, some 17, some 18, some 19, some 20, some 21, some 22, some 23, some 24, some 25] [([], _)] [none, none, none, none, none, none, none, none, none, none] 0 [(0, [], [0]), (1, [], [5]), (2, [], [16, 0]), (3, [], [18]), (4, [], [1]), (5, [], [5]), (6, [], [20, 0]), (7, [], [22]), (8, [], [19, 3]), (9, [], [24])] [_, _, _, _, _, _, _, _, _, _]
      case' hm => exact dr
      case' hn => rfl
      case' hok => rfl
      case' hlen => rfl
      case' hd => rfl
      case' h0 => rfl
      case' hstep =>
       simp only [DAllG, push_cast, Option.isSome_some, Option.isSome_none]
       repeat' apply And.intro
       all_goals (apply DOne_V; simp only [push_cast, Nat.reduceAdd, Nat.reduceSub, Nat.reduceMul, Nat.reduceLT, Nat.reduceLeDiff, Nat.reduceEqDiff, Int.reduceToNat, ↓reduceIte] <;> first | exact rfl | omega | exact ⟨rfl, rfl⟩ | exact trivial | exact ⟨by omega, rfl⟩ | exact ⟨by omega, by omega, rfl⟩ | exact ⟨by omega, rfl, rfl⟩ | exact ⟨by omega, by omega, rfl, rfl⟩ | exact ⟨by omega, trivial⟩ | (refine (heq _).to ?_; exact ⟨rfl, rfl⟩))
      case' hQ => skip
      simp only [push_cast, Nat.reduceAdd, Nat.reduceSub, Nat.reduceMul, Nat.reduceLT, Nat.reduceLeDiff, Nat.reduceEqDiff, Int.reduceToNat, ↓reduceIte]
      refine cI (fun he => ?_) (fun he => ?_)
      · repeat' first | refine ⟨by omega, ?_⟩ | refine cI (fun _ => ?_) (fun _ => ?_)
        refine loopW_n (i + 1) ⟨by omega, ?_⟩ (by omega) (by simp only [push_cast, Nat.reduceAdd, Nat.reduceSub, Nat.reduceMul, Nat.reduceLT, Nat.reduceLeDiff, Nat.reduceEqDiff, Int.reduceToNat, ↓reduceIte])
        rw [List.take_succ_eq_append_getElem hia, List.take_succ_eq_append_getElem hib, hi.2, he]
      · have hne : a ≠ b := fun e => he (by subst e; rfl)
        simp [hne]
    · have e := hi.2
      rw [List.take_of_length_le (by omega), List.take_of_length_le (by omega)] at e
      simp [e]
  · have hne : a ≠ b := fun e => hl (by rw [e])
    simp [hne]
theorem constant_ac (s : List UInt8) (H : List AObj) : ACall Tryz.prog 50 [.str s] H (fun r H' => r = encT (.mk s false []) ∧ H' = H) := by
  refine ACall_V (H.length) 4 [.cell 2 25] Tryz.func50 rfl rfl rfl ?_
  simp only [push_cast, Nat.reduceAdd, Nat.reduceSub, Nat.reduceMul, Nat.reduceLT, Nat.reduceLeDiff, Nat.reduceEqDiff, Int.reduceToNat, ↓reduceIte]
theorem enc_c (s : List UInt8) : encT (.mk s false []) = .agg [.str s, .bool false, .sl .none []] := by
  have h : encTs (Term.mk s false []).args = [] := encTs_nil
  simp only [encT, h]; rfl
theorem enc_dxR : encL encRu dxR = [AV.agg [.str [97], .bool false, .sl .none [], .str [98], .bool false, .sl .none []], .agg [.str [97], .bool false, .sl .none [], .str [99], .bool false, .sl .none []], .agg [.str [98], .bool false, .sl .none [], .str [97], .bool false, .sl .none []]] := by
  have h : ∀ s, encTs (Term.mk s false []).args = [] := fun s => encTs_nil
  simp only [encL, dxR, List.map_cons, List.map_nil, encRu, dxA, dxB, dxC, h, Term.mk_name, Term.mk_var]
set_option maxHeartbeats 4000000 in
theorem alive5_ac (H : List AObj) : ACall Tryz.prog 14 [] H (fun r H' => r = .bool true ∧ H' = H) := by
  have hA : encT dxA = .agg [.str [97], .bool false, .sl .none []] := enc_c [97]
  have hx := fun X => exploreX_ac dxR (by rw [dx_B.2.1]; decide) dx_B.1 dxA (by rw [dx_B.2.2]; decide) 10 X
  rw [dx_exE, enc_dxR, hA] at hx
  have hck : ∀ x, x ∈ dxG.ts → checkP x = 0 := by
    intro x hx
    simp only [dxG, List.mem_cons, List.not_mem_nil, or_false] at hx
    rcases hx with rfl | rfl | rfl
    · exact dx_ck.1
    · exact dx_ck.2.1
    · exact dx_ck.2.2
  have hn := fun X => normals1_ac dxR (by rw [dx_B.2.1]; decide) dx_B.1 dxA (by rw [dx_B.2.2]; decide) 10 dxG dx_exE dx_sys hck (by decide) (by rw [dx_norm]; decide) X
  rw [dx_norm, enc_dxR, hA] at hn
  have hlg := fun X => longestX_ac X
  rw [enc_dxR, hA] at hlg
  have hbk : ∀ x, x ∈ dxG.ts → x.bulk ≤ 1099511627775 := fun x hx => by have := check_small (hck x hx); omega
  have hs3 := fun X => sameTerms_ac dxG.ts [dxA, dxB, dxC] (by decide) (by decide) hbk hbk X
  rw [show decide (dxG.ts = [dxA, dxB, dxC]) = true from decide_eq_true rfl, show encTs [dxA, dxB, dxC] = [AV.agg [.str [97], .bool false, .sl .none []], .agg [.str [98], .bool false, .sl .none []], .agg [.str [99], .bool false, .sl .none []]] by rw [encTs_cons, encTs_cons, encTs_one]; exact congr (congrArg _ (enc_c [97])) (congr (congrArg _ (enc_c [98])) (congrArg (fun x => [x]) (enc_c [99])))] at hs3
  have hs1 : ∀ X, ACall Tryz.prog 16 [.sl .none [encT dxC], .sl .none [.agg [.str [99], .bool false, .sl .none []]]] X (fun r H' => r = .bool true ∧ H' = X) := fun X => by
    have hc : ∀ x, x ∈ [dxC] → x.bulk ≤ 1099511627775 := fun x hx => hbk x (by simp at hx; rw [hx]; simp [dxG])
    have h := sameTerms_ac [dxC] [dxC] (by decide) (by decide) hc hc X
    rw [encTs_one, show decide ([dxC] = [dxC]) = true from decide_eq_true rfl] at h
    rw [← enc_c [99]]
    exact h
  have hes : dxG.es.length = 3 := rfl
  have hwh : dxG.wh = true := rfl
  refine ACall_V (H.length) 82 [.tmp 0] Tryz.func14 rfl rfl rfl ?_
  simp only [push_cast, Nat.reduceAdd, Nat.reduceSub, Nat.reduceMul, Nat.reduceLT, Nat.reduceLeDiff, Nat.reduceEqDiff, Int.reduceToNat, ↓reduceIte]
  refine (constant_ac _ _).to ?_
  rw [enc_c]
  simp only [push_cast, Nat.reduceAdd, Nat.reduceSub, Nat.reduceMul, Nat.reduceLT, Nat.reduceLeDiff, Nat.reduceEqDiff, Int.reduceToNat, ↓reduceIte]
  refine (constant_ac _ _).to ?_
  rw [enc_c]
  simp only [push_cast, Nat.reduceAdd, Nat.reduceSub, Nat.reduceMul, Nat.reduceLT, Nat.reduceLeDiff, Nat.reduceEqDiff, Int.reduceToNat, ↓reduceIte]
  refine (constant_ac _ _).to ?_
  rw [enc_c]
  simp only [push_cast, Nat.reduceAdd, Nat.reduceSub, Nat.reduceMul, Nat.reduceLT, Nat.reduceLeDiff, Nat.reduceEqDiff, Int.reduceToNat, ↓reduceIte]
  refine (constant_ac _ _).to ?_
  rw [enc_c]
  simp only [push_cast, Nat.reduceAdd, Nat.reduceSub, Nat.reduceMul, Nat.reduceLT, Nat.reduceLeDiff, Nat.reduceEqDiff, Int.reduceToNat, ↓reduceIte]
  refine (constant_ac _ _).to ?_
  rw [enc_c]
  simp only [push_cast, Nat.reduceAdd, Nat.reduceSub, Nat.reduceMul, Nat.reduceLT, Nat.reduceLeDiff, Nat.reduceEqDiff, Int.reduceToNat, ↓reduceIte]
  refine (constant_ac _ _).to ?_
  rw [enc_c]
  simp only [push_cast, Nat.reduceAdd, Nat.reduceSub, Nat.reduceMul, Nat.reduceLT, Nat.reduceLeDiff, Nat.reduceEqDiff, Int.reduceToNat, ↓reduceIte]
  refine (constant_ac _ _).to ?_
  rw [enc_c]
  simp only [push_cast, Nat.reduceAdd, Nat.reduceSub, Nat.reduceMul, Nat.reduceLT, Nat.reduceLeDiff, Nat.reduceEqDiff, Int.reduceToNat, ↓reduceIte]
  refine (hx _).to ?_
  simp only [push_cast, Nat.reduceAdd, Nat.reduceSub, Nat.reduceMul, Nat.reduceLT, Nat.reduceLeDiff, Nat.reduceEqDiff, Int.reduceToNat, ↓reduceIte, encGE]
  refine (constant_ac _ _).to ?_
  rw [enc_c]
  simp only [push_cast, Nat.reduceAdd, Nat.reduceSub, Nat.reduceMul, Nat.reduceLT, Nat.reduceLeDiff, Nat.reduceEqDiff, Int.reduceToNat, ↓reduceIte]
  refine (hn _).to ?_
  simp only [push_cast, Nat.reduceAdd, Nat.reduceSub, Nat.reduceMul, Nat.reduceLT, Nat.reduceLeDiff, Nat.reduceEqDiff, Int.reduceToNat, ↓reduceIte]
  refine (constant_ac _ _).to ?_
  rw [enc_c]
  simp only [push_cast, Nat.reduceAdd, Nat.reduceSub, Nat.reduceMul, Nat.reduceLT, Nat.reduceLeDiff, Nat.reduceEqDiff, Int.reduceToNat, ↓reduceIte]
  refine (hlg _).to ?_
  simp only [push_cast, Nat.reduceAdd, Nat.reduceSub, Nat.reduceMul, Nat.reduceLT, Nat.reduceLeDiff, Nat.reduceEqDiff, Int.reduceToNat, ↓reduceIte]
  apply AW_drawE [some 40, some 41, some 42, some 43, some 44, some 45, some 46, some 47, some 48, some 49, some 50, some 51, some 52, some 53, some 54, some 55, some 56, some 57, some 58, some 59, some 60, some 61, some 62, some 63, some 64, some 65, some 66, some 67, some 68, some 69, some 70, some 71, some 72, some 73, some 74, some 75, some 76, some 77, some 78, some 79, some 80, some 81, some 0] [([], _)] [none, none, none, none, none, none, none, none, none, none, none, none, none, none, none, none, none, none, none, none, none, none, none, none, none, none, none, none, none, none, none, none, none, none, none, none, none, none, none, none, none, none, none] 0 [(0, [], [3]), (1, [], [40]), (2, [], [41]), (3, [], [2, 39]), (4, [], [42, 0]), (5, [], [42]), (6, [], [42]), (7, [], [42]), (8, [], [42, 2, 0, 0]), (9, [], [42, 1, 3]), (10, [], [42, 6]), (11, [], [50]), (12, [], [2, 48]), (13, [], [51, 0]), (14, [], [51, 1]), (15, [], [51, 2]), (16, [], [51, 3]), (17, [], [56]), (18, [], [2, 54]), (19, [], [57, 0]), (20, [], [57, 1]), (21, [], [60]), (22, [], [6, 54]), (23, [], [61, 0]), (24, [], [61, 1]), (25, [], [64]), (26, [], [5, 59]), (27, [], [65, 0]), (28, [], [67]), (29, [], [4, 63]), (30, [], [68]), (31, [], [68, 1]), (32, [], [68, 0, 1]), (33, [], [68, 3]), (34, [], [73]), (35, [], [9, 64]), (36, [], [74, 0]), (37, [], [74, 1]), (38, [], [77]), (39, [], [8, 69]), (40, [], [78, 0]), (41, [], [78, 1]), (42, [], [81])] [_, _, _, _, _, _, _, _, _, _, _, _, _, _, _, _, _, _, _, _, _, _, _, _, _, _, _, _, _, _, _, _, _, _, _, _, _, _, _, _, _, _, _]
  case' hm => exact dr
  case' hn => rfl
  case' hok => rfl
  case' hlen => rfl
  case' hd => rfl
  case' h0 => rfl
  case' hstep =>
   simp only [DAllG, push_cast, Option.isSome_some, Option.isSome_none]
   repeat' apply And.intro
   all_goals (apply DOne_V; simp only [push_cast, Nat.reduceAdd, Nat.reduceSub, Nat.reduceMul, Nat.reduceLT, Nat.reduceLeDiff, Nat.reduceEqDiff, Int.reduceToNat, ↓reduceIte, hes, hwh, decide_true, Bool.not_false, Bool.not_true] <;> first | exact rfl | omega | exact ⟨rfl, rfl⟩ | exact trivial | exact ⟨by omega, rfl⟩ | exact ⟨by omega, by omega, rfl⟩ | exact ⟨by omega, rfl, rfl⟩ | exact ⟨by omega, by omega, rfl, rfl⟩ | (refine (constant_ac _ _).to ?_; rw [enc_c]; exact ⟨rfl, rfl⟩) | (refine (hs3 _).to ?_; exact ⟨rfl, rfl⟩) | (refine (hs1 _).to ?_; exact ⟨rfl, rfl⟩) | rfl | exact decide_eq_true rfl | trace_state)
  case' hQ => skip
  simp only [push_cast, Nat.reduceAdd, Nat.reduceSub, Nat.reduceMul, Nat.reduceLT, Nat.reduceLeDiff, Nat.reduceEqDiff, Int.reduceToNat, ↓reduceIte]
end Ab
set_option maxRecDepth 10000
namespace Ab
open Go Go.Proofs
theorem sameSteps_ac (a b : List (Int × List Int)) (h1 : a.length < 1099511627776) (h2 : b.length < 1099511627776) (h3 : ∀ x, x ∈ a → x.2.length < 1099511627776) (h4 : ∀ x, x ∈ b → x.2.length < 1099511627776) (H : List AObj) :
    ACall Tryz.prog 53 [.sl .none (encL encSt a), .sl .none (encL encSt b)] H (fun r H' => r = .bool (decide (a = b)) ∧ H' = H) := by
  refine ACall_V (H.length) 40 [.tmp 4] Tryz.func53 rfl rfl rfl ?_
  simp only [push_cast, Nat.reduceAdd, Nat.reduceSub, Nat.reduceMul, Nat.reduceLT, Nat.reduceLeDiff, Nat.reduceEqDiff, Int.reduceToNat, ↓reduceIte]
  refine cI (fun hl => ?_) (fun hl => ?_)
  · have hl : a.length = b.length := by omega
    refine AW_loopW (maskG 42 [0, 0, 10, 0]) (fun (i : Nat) => [(13, .int .i64 i)]) (fun _ => H) (fun i => i ≤ a.length ∧ a.take i = b.take i) (fun i => a.length - i) 0 ⟨Nat.zero_le _, rfl⟩ (by simp only [push_cast, Nat.reduceAdd, Nat.reduceSub, Nat.reduceMul, Nat.reduceLT, Nat.reduceLeDiff, Nat.reduceEqDiff, Int.reduceToNat, ↓reduceIte]) (fun i hi => ?_)
    simp only [push_cast, Nat.reduceAdd, Nat.reduceSub, Nat.reduceMul, Nat.reduceLT, Nat.reduceLeDiff, Nat.reduceEqDiff, Int.reduceToNat, ↓reduceIte]
    refine cI (fun h => ?_) (fun h => ?_)
    · repeat refine ⟨by omega, ?_⟩
      have hia : i < a.length := by omega
      have hib : i < b.length := by omega
      have heq := fun H => samePosR_ac (a[i]'hia).2 (b[i]'hib).2 (h3 _ (List.getElem_mem hia)) (h4 _ (List.getElem_mem hib)) H
      by_cases hn : (a[i]'hia).1 = (b[i]'hib).1
      · have hd : decide ((a[i]'hia).1 = (b[i]'hib).1) = true := by simpa using hn
        apply AW_drawE [some 16, some 17, some 18, some 19, some 20, some 21, some 22, some 23, some 24, some 25, some 26, some 27, some 28, some 29, some 30, some 31, some 32, some 33, some 34, some 35, some 36, some 37, some 38, some 39, some 40] [([], _)] [none, none, none, none, none, none, none, none, none, none, none, none, none, none, none, none, none, none, none, none, none, none, none, none, none] 0 [(0, [], [0]), (1, [], [5]), (2, [], [16, 0]), (3, [], [18]), (4, [], [19]), (5, [], [1]), (6, [], [5]), (7, [], [21, 0]), (8, [], [23]), (9, [], [24]), (10, [], [20, 4]), (11, [], [26]), (12, [], [0, 26]), (13, [], [5, 21]), (14, [], [27, 0, 0]), (15, [], [27, 2]), (16, [], [27, 3]), (17, [], [1, 25]), (18, [], [5, 21]), (19, [], [27, 5, 0]), (20, [], [27, 7]), (21, [], [27, 8]), (22, [], [27, 4, 4]), (23, [], [27, 10]), (24, [], [27, 11])] [_, _, _, _, _, _, _, _, _, _, _, _, _, _, _, _, _, _, _, _, _, _, _, _, _]
        case' hm => exact dr
        case' hn => rfl
        case' hok => rfl
        case' hlen => rfl
        case' hd => rfl
        case' h0 => rfl
        case' hstep =>
         simp only [DAllG, push_cast, Option.isSome_some, Option.isSome_none]
         repeat' apply And.intro
         all_goals (apply DOne_V; simp only [push_cast, Nat.reduceAdd, Nat.reduceSub, Nat.reduceMul, Nat.reduceLT, Nat.reduceLeDiff, Nat.reduceEqDiff, Int.reduceToNat, ↓reduceIte, hd, Bool.not_true] <;> first | exact rfl | omega | exact ⟨rfl, rfl⟩ | exact trivial | exact ⟨by omega, rfl⟩ | exact ⟨by omega, by omega, rfl⟩ | exact ⟨by omega, rfl, rfl⟩ | exact ⟨by omega, by omega, rfl, rfl⟩ | exact ⟨by omega, trivial⟩ | exact (heq _).to ⟨rfl, rfl⟩)
        case' hQ => skip
        simp only [push_cast, Nat.reduceAdd, Nat.reduceSub, Nat.reduceMul, Nat.reduceLT, Nat.reduceLeDiff, Nat.reduceEqDiff, Int.reduceToNat, ↓reduceIte, hd, Bool.not_true]
        refine cI (fun he => ?_) (fun he => ?_)
        · repeat' first | refine ⟨by omega, ?_⟩ | refine cI (fun _ => ?_) (fun _ => ?_)
          refine loopW_n (i + 1) ⟨by omega, ?_⟩ (by omega) (by simp only [push_cast, Nat.reduceAdd, Nat.reduceSub, Nat.reduceMul, Nat.reduceLT, Nat.reduceLeDiff, Nat.reduceEqDiff, Int.reduceToNat, ↓reduceIte])
          rw [List.take_succ_eq_append_getElem hia, List.take_succ_eq_append_getElem hib, hi.2]
          congr 2
          exact Prod.ext hn he
        · have hne : a ≠ b := fun e => he (by subst e; rfl)
          simp [hne]
      · have hd : decide ((a[i]'hia).1 = (b[i]'hib).1) = false := by simpa using hn
        apply AW_drawE [some 16, some 17, some 18, some 19, some 20, some 21, some 22, some 23, some 24, some 25, some 26, some 27, some 28, some 29, some 30, some 31, some 32, some 33, some 34, some 35, some 36, some 37, some 38, some 39, some 40] [([], _)] [none, none, none, none, none, none, none, none, none, none, none, none, none, none, none, none, none, none, none, none, none, none, none, none, none] 0 [(0, [], [0]), (1, [], [5]), (2, [], [16, 0]), (3, [], [18]), (4, [], [19]), (5, [], [1]), (6, [], [5]), (7, [], [21, 0]), (8, [], [23]), (9, [], [24]), (10, [], [20, 4]), (11, [], [26]), (12, [], [0, 26]), (13, [], [5, 21]), (14, [], [27, 0, 0]), (15, [], [27, 2]), (16, [], [27, 3]), (17, [], [1, 25]), (18, [], [5, 21]), (19, [], [27, 5, 0]), (20, [], [27, 7]), (21, [], [27, 8]), (22, [], [27, 4, 4]), (23, [], [27, 10]), (24, [], [27, 11])] [_, _, _, _, _, _, _, _, _, _, _, _, _, _, _, _, _, _, _, _, _, _, _, _, _]
        case' hm => exact dr
        case' hn => rfl
        case' hok => rfl
        case' hlen => rfl
        case' hd => rfl
        case' h0 => rfl
        case' hstep =>
         simp only [DAllG, push_cast, Option.isSome_some, Option.isSome_none]
         repeat' apply And.intro
         all_goals (apply DOne_V; simp only [push_cast, Nat.reduceAdd, Nat.reduceSub, Nat.reduceMul, Nat.reduceLT, Nat.reduceLeDiff, Nat.reduceEqDiff, Int.reduceToNat, ↓reduceIte, hd, Bool.not_false] <;> first | exact rfl | omega | exact ⟨rfl, rfl⟩ | exact trivial | exact ⟨by omega, rfl⟩ | exact ⟨by omega, by omega, rfl⟩ | exact ⟨by omega, rfl, rfl⟩ | exact ⟨by omega, by omega, rfl, rfl⟩ | exact ⟨by omega, trivial⟩)
        case' hQ => skip
        have hne : a ≠ b := fun e => hn (by subst e; rfl)
        simp only [push_cast, Nat.reduceAdd, Nat.reduceSub, Nat.reduceMul, Nat.reduceLT, Nat.reduceLeDiff, Nat.reduceEqDiff, Int.reduceToNat, ↓reduceIte, hd, Bool.not_false, decide_eq_false hne]
    · have e := hi.2
      rw [List.take_of_length_le (by omega), List.take_of_length_le (by omega)] at e
      simp [e]
  · have hne : a ≠ b := fun e => hl (by rw [e])
    simp [hne]
def ChB (c : Term × List (Int × List Int)) : Prop := c.1.bulk ≤ 1099511627775 ∧ c.2.length < 1099511627776 ∧ ∀ x, x ∈ c.2 → x.2.length < 1099511627776
theorem sameChain_ac (a b : Term × List (Int × List Int)) (ha : ChB a) (hb : ChB b) (H : List AObj) : ACall Tryz.prog 57 [encCh a, encCh b] H (fun r H' => r = .bool (decide (a = b)) ∧ H' = H) := by
  refine ACall_V (H.length) 15 [.tmp 4] Tryz.func57 rfl rfl rfl ?_
  simp only [push_cast, Nat.reduceAdd, Nat.reduceSub, Nat.reduceMul, Nat.reduceLT, Nat.reduceLeDiff, Nat.reduceEqDiff, Int.reduceToNat, ↓reduceIte]
  refine (equalR_ac a.1 b.1 ha.1 hb.1 _).to ?_
  simp only [push_cast, Nat.reduceAdd, Nat.reduceSub, Nat.reduceMul, Nat.reduceLT, Nat.reduceLeDiff, Nat.reduceEqDiff, Int.reduceToNat, ↓reduceIte]
  refine cI (fun h => ?_) (fun h => ?_)
  · refine (sameSteps_ac a.2 b.2 ha.2.1 hb.2.1 ha.2.2 hb.2.2 _).to ?_
    simp only [push_cast, Nat.reduceAdd, Nat.reduceSub, Nat.reduceMul, Nat.reduceLT, Nat.reduceLeDiff, Nat.reduceEqDiff, Int.reduceToNat, ↓reduceIte]
    have : (a = b) ↔ a.2 = b.2 := ⟨fun e => by rw [e], fun e => Prod.ext h e⟩
    simp [this]
  · have : ¬ a = b := fun e => h (by rw [e])
    simp [this]
end Ab
set_option maxRecDepth 100000
namespace Ab
open Go Go.Proofs
def findI (ts : List Term) (u : Term) : Int := if u ∈ ts then ((ts.idxOf u : Nat) : Int) else -1
theorem idx_at {ts : List Term} {u : Term} {i : Nat} (h : i < ts.length) (h1 : ts[i] = u) (h2 : ∀ x, x ∈ ts.take i → ¬ x = u) : findI ts u = (i : Int) := by
  have hm : u ∈ ts := by rw [← h1]; exact List.getElem_mem h
  have e : ts = ts.take i ++ u :: ts.drop (i + 1) := by rw [← h1, ← List.drop_eq_getElem_cons h, List.take_append_drop]
  have hn : u ∉ ts.take i := fun hh => h2 u hh rfl
  have hx : (ts.take i ++ u :: ts.drop (i + 1)).idxOf u = i := by
    rw [List.idxOf_append, if_neg hn]
    simp
    omega
  unfold findI
  rw [if_pos hm]
  rw [← e] at hx
  rw [hx]
theorem findR_ac (ts : List Term) (u : Term) (hl : ts.length < 1099511627776) (hb : ∀ x, x ∈ ts → x.bulk ≤ 1099511627775) (hu : u.bulk ≤ 1099511627775) (H : List AObj) :
    ACall Tryz.prog 35 [.sl .none (encTs ts), encT u] H (fun r H' => r = .int .i64 (findI ts u) ∧ H' = H) := by
  refine ACall_V (H.length) 17 [.tmp 4] Tryz.func35 rfl rfl rfl ?_
  simp only [push_cast, Nat.reduceAdd, Nat.reduceSub, Nat.reduceMul, Nat.reduceLT, Nat.reduceLeDiff, Nat.reduceEqDiff, Int.reduceToNat, ↓reduceIte]
  refine AW_loopW (maskG 19 [0, 2, 3, 0]) (fun (i : Nat) => [(8, .int .i64 i)]) (fun _ => H ++ [.cells [.str u.name, .bool u.var, .sl .none (encTs u.args)]]) (fun i => i ≤ ts.length ∧ ∀ x, x ∈ ts.take i → ¬ x = u) (fun i => ts.length - i) 0 ⟨Nat.zero_le _, by simp⟩ (by simp only [push_cast, Nat.reduceAdd, Nat.reduceSub, Nat.reduceMul, Nat.reduceLT, Nat.reduceLeDiff, Nat.reduceEqDiff, Int.reduceToNat, ↓reduceIte]) (fun i hi => ?_)
  obtain ⟨hi1, hi2⟩ := hi
  simp only [push_cast, Nat.reduceAdd, Nat.reduceSub, Nat.reduceMul, Nat.reduceLT, Nat.reduceLeDiff, Nat.reduceEqDiff, Int.reduceToNat, ↓reduceIte]
  refine cI (fun h => ?_) (fun h => ?_)
  · have hil : i < ts.length := by omega
    have heq := fun X => equalR_ac (ts[i]'hil) u (hb _ (List.getElem_mem hil)) hu X
    apply AW_drawE [some 11, some 12, some 13, some 14, some 15, some 16] [([], _)] [none, none, none, none, none, none] 0 [(0, [], [0]), (1, [], [5]), (2, [], [11, 0]), (3, [], [13]), (4, [], [3]), (5, [], [14, 0])] [_, _, _, _, _, _]
    case' hm => exact dr
    case' hn => rfl
    case' hok => rfl
    case' hlen => rfl
    case' hd => rfl
    case' h0 => rfl
    case' hstep =>
     simp only [DAllG, push_cast, Option.isSome_some, Option.isSome_none]
     repeat' apply And.intro
     all_goals (apply DOne_V; simp only [push_cast, Nat.reduceAdd, Nat.reduceSub, Nat.reduceMul, Nat.reduceLT, Nat.reduceLeDiff, Nat.reduceEqDiff, Int.reduceToNat, ↓reduceIte] <;> first | exact rfl | omega | exact ⟨rfl, rfl⟩ | exact trivial | exact ⟨by omega, rfl⟩ | exact ⟨by omega, by omega, rfl⟩ | exact ⟨by omega, rfl, rfl⟩ | exact ⟨by omega, by omega, rfl, rfl⟩ | exact ⟨by omega, trivial⟩ | (refine (heq _).to ?_; exact ⟨rfl, rfl⟩))
    case' hQ => skip
    simp only [push_cast, Nat.reduceAdd, Nat.reduceSub, Nat.reduceMul, Nat.reduceLT, Nat.reduceLeDiff, Nat.reduceEqDiff, Int.reduceToNat, ↓reduceIte]
    refine cI (fun h1 => ?_) (fun h1 => ?_)
    · rw [idx_at hil h1 hi2]
    · repeat' first | refine ⟨by omega, ?_⟩ | refine cI (fun _ => ?_) (fun _ => ?_)
      refine loopW_n (i + 1) ⟨by omega, fun x hx => ?_⟩ (by omega) (by simp only [push_cast, Nat.reduceAdd, Nat.reduceSub, Nat.reduceMul, Nat.reduceLT, Nat.reduceLeDiff, Nat.reduceEqDiff, Int.reduceToNat, ↓reduceIte])
      rw [List.take_succ_eq_append_getElem hil] at hx
      rcases List.mem_append.1 hx with hx | hx
      · exact hi2 x hx
      · rw [List.mem_singleton] at hx; rw [hx]; exact h1
  · rw [List.take_of_length_le (show ts.length ≤ i by omega)] at hi2
    unfold findI
    rw [if_neg (fun hm => hi2 u hm rfl)]
theorem cellE : ∀ (x : Edg) c, c ∈ (encE x).cells → c.isCell = true := by
  intro x c hc; simp [AV.cells] at hc; rcases hc with rfl | rfl | rfl | rfl <;> rfl
set_option maxRecDepth 1000000 in
set_option maxHeartbeats 8000000 in
theorem exploreR_ac (rs : List (Term × Term)) (hr : sysP rs = 0) (t : Term) (ht : checkP t = 0) (most : Nat) (hm : 1 ≤ most) (hm2 : most ≤ 4096) (H : List AObj) :
    ACall Tryz.prog 34 [.sl .none (encL encRu rs), encT t, .int .i64 (most : Nat)] H (fun r H' => r = encGE (exploreF rs t most) ∧ H' = H) := by
  have hts := check_small ht
  refine ACall_VA (H.length) 85 [.cell 6 69, .tmp 7] Tryz.func34 rfl rfl rfl ?_
  refine AW_reserve 2 ?_
  refine AW_seq (AW_of_W ?_)
  simp only [push_cast, Nat.reduceAdd, Nat.reduceSub, Nat.reduceMul, Nat.reduceLT, Nat.reduceLeDiff, Nat.reduceEqDiff, Int.reduceToNat, ↓reduceIte]
  refine AW_seq ?_
  refine AW_regionAt _ [_] _ _ rfl rfl ?_
  simp only [push_cast, Nat.reduceAdd, Nat.reduceSub, Nat.reduceMul, Nat.reduceLT, Nat.reduceLeDiff, Nat.reduceEqDiff, Int.reduceToNat, ↓reduceIte]
  refine bsliceG_sound H.length ?_
  simp only [push_cast, Nat.reduceAdd, Nat.reduceSub, Nat.reduceMul, Nat.reduceLT, Nat.reduceLeDiff, Nat.reduceEqDiff, Int.reduceToNat, ↓reduceIte, bsliceG]
  refine AW_of_W ?_
  simp only [push_cast, Nat.reduceAdd, Nat.reduceSub, Nat.reduceMul, Nat.reduceLT, Nat.reduceLeDiff, Nat.reduceEqDiff, Int.reduceToNat, ↓reduceIte]
  obtain ⟨RES, hRES⟩ : ∃ RES, RES = exploreF rs t most := ⟨_, rfl⟩
  rw [← hRES]
  refine AW_loopW (maskG 88 [0, 1, 3, 1, 0]) (fun (q : Nat × GrP) => [(9, .int .i64 q.1)]) (fun q => H ++ [gTok 25 3 (encTs q.2.ts), gTok 117 4 (encL encE q.2.es), .cells [.str t.name, .bool t.var, .sl .none (encTs t.args)], .cells [.sl .zero [], .sl .zero [], .bool false], .cells [gSl H.length (encTs q.2.ts), gSl (H.length + 1) (encL encE q.2.es), .bool q.2.wh]]) (fun q => q.1 ≤ q.2.ts.length ∧ q.2.ts ≠ [] ∧ q.2.ts.length ≤ most ∧ (∀ x, x ∈ q.2.ts → checkP x = 0) ∧ q.2.es.length ≤ q.1 * 256000 ∧ RES = expF rs most (most - q.1) q.1 q.2) (fun q => most - q.1) (0, ⟨[t], [], true⟩) ⟨Nat.zero_le _, by simp, by simpa using hm, by intro x hx; simp at hx; rw [hx]; exact ht, by simp, by rw [hRES]; rfl⟩ (by first | (simp only [push_cast, Nat.reduceAdd, Nat.reduceSub, Nat.reduceMul, Nat.reduceLT, Nat.reduceLeDiff, Nat.reduceEqDiff, Int.reduceToNat, ↓reduceIte, encTs_one, gSl_cons, gTok_cons, encL_nil]; done) | (simp only [push_cast, Nat.reduceAdd, Nat.reduceSub, Nat.reduceMul, Nat.reduceLT, Nat.reduceLeDiff, Nat.reduceEqDiff, Int.reduceToNat, ↓reduceIte, encTs_one, gSl_cons, gTok_cons, encL_nil]; trace_state)) (fun q hq => ?_)
  obtain ⟨i, g⟩ := q
  obtain ⟨q1, q2, q3, q4, q5, q6⟩ := hq
  simp only at q1 q2 q3 q4 q5 q6
  obtain ⟨tk, htk⟩ := gSl_tk H.length (encTs g.ts)
  rw [htk]
  simp only [push_cast, Nat.reduceAdd, Nat.reduceSub, Nat.reduceMul, Nat.reduceLT, Nat.reduceLeDiff, Nat.reduceEqDiff, Int.reduceToNat, ↓reduceIte]
  refine cI (fun h => ?_) (fun h => ?_)
  · have hil : i < g.ts.length := by omega
    obtain ⟨u, hu⟩ : ∃ u, u = g.ts[i]'hil := ⟨_, rfl⟩
    have hut : g.ts[i]? = some u := by rw [List.getElem?_eq_getElem hil, hu]
    have huc : checkP u = 0 := by rw [hu]; exact q4 _ (List.getElem_mem hil)
    have hus := check_small huc
    have hal := allS_len hr huc
    obtain ⟨n, hn⟩ : ∃ n, most - i = n + 1 := ⟨most - i - 1, by omega⟩
    rw [hn, expF, hut] at q6
    simp only at q6
    refine ⟨hil, ?_⟩
    rw [← hu]
    have hredex := fun X => redexesV_ac rs hr u huc 1 X
    rw [show underP rs u 1 = allS rs u by simp [underP]] at hredex
    refine (hredex _).to ?_
    simp only [push_cast, Nat.reduceAdd, Nat.reduceSub, Nat.reduceMul, Nat.reduceLT, Nat.reduceLeDiff, Nat.reduceEqDiff, Int.reduceToNat, ↓reduceIte]
    obtain ⟨l, hl⟩ : ∃ l, l = allS rs u := ⟨_, rfl⟩
    have hlm : ∀ s, s ∈ l → s.2.length < 1099511627776 := fun s hs => by
      rw [hl] at hs
      have := step_len hs
      omega
    rw [← hl] at q6 hal ⊢
    rw [← htk]
    refine AW_loopW (maskG 88 [0, 1, 3, 1, 0, 21, 0, 0]) (fun (q : Nat × GrP) => [(33, .int .i64 q.1)]) (fun q => H ++ [gTok 25 3 (encTs q.2.ts), gTok 117 4 (encL encE q.2.es), .cells [.str t.name, .bool t.var, .sl .none (encTs t.args)], .cells [.sl .zero [], .sl .zero [], .bool false], .cells [gSl H.length (encTs q.2.ts), gSl (H.length + 1) (encL encE q.2.es), .bool q.2.wh]]) (fun q => q.1 ≤ l.length ∧ GOk most i q.1 u q.2 ∧ exRow rs most i u g l = exRow rs most i u q.2 (l.drop q.1)) (fun q => l.length - q.1) (0, g) ⟨Nat.zero_le _, ⟨q3, q4, by simpa using q5, hut⟩, by simp⟩ (by simp only [push_cast, Nat.reduceAdd, Nat.reduceSub, Nat.reduceMul, Nat.reduceLT, Nat.reduceLeDiff, Nat.reduceEqDiff, Int.reduceToNat, ↓reduceIte]) (fun q hq => ?_)
    obtain ⟨j, g'⟩ := q
    obtain ⟨p1, p2, p3⟩ := hq
    simp only at p1 p2 p3
    have hil' : i < g'.ts.length := (List.getElem?_eq_some_iff.1 p2.at').1
    have hgu : ∀ h, g'.ts[i]'h = u := fun h => (List.getElem?_eq_some_iff.1 p2.at').2
    have hgl := p2.len
    have hgb : ∀ x, x ∈ g'.ts → x.bulk ≤ 1099511627775 := fun x hx => by have := check_small (p2.ck x hx); omega
    simp only [push_cast, Nat.reduceAdd, Nat.reduceSub, Nat.reduceMul, Nat.reduceLT, Nat.reduceLeDiff, Nat.reduceEqDiff, Int.reduceToNat, ↓reduceIte]
    refine cI (fun h3 => ?_) (fun h3 => ?_)
    · have hjl : j < l.length := by omega
      obtain ⟨s, hs⟩ : ∃ s, s = l[j]'hjl := ⟨_, rfl⟩
      have hsm := hlm _ (List.getElem_mem hjl)
      rw [List.drop_eq_getElem_cons hjl, ← hs] at p3
      refine ⟨hjl, ?_⟩
      rw [← hs] at hsm ⊢
      have hdo := fun X => stepR_ac rs hr u huc s hsm X
      obtain ⟨tk2, htk2⟩ := gSl_tk H.length (encTs g'.ts)
      rw [htk2]
      apply AW_drawE [some 38, some 39, some 40, some 41, some 42, some 43, some 44, some 45, some 37, some 46, some 47, some 12, none, some 13] [([false, false], _), ([true, false], _), ([true, true], _)] [none, none, none, none, none, none, none, none, none, none, none, some 0, some 1, none] 2 [(0, [false, false], [0]), (1, [false, false], [8]), (2, [false, false], [39]), (3, [false, false], [9]), (4, [false, false], [40, 0]), (5, [false, false], [42]), (6, [false, false], [11]), (7, [false, false], [38, 4, 0]), (8, [false, false], [45]), (9, [false, false], [37]), (10, [false, false], [37]), (11, [false, false], []), (12, [true, false], [12, 33]), (13, [true, true], [47]), (0, [true, false], [0]), (1, [true, false], [8]), (2, [true, false], [39]), (3, [true, false], [9]), (4, [true, false], [40, 0]), (5, [true, false], [42]), (6, [true, false], [11]), (7, [true, false], [38, 4, 0]), (8, [true, false], [45]), (9, [true, false], [37]), (10, [true, false], [37]), (10, [true, true], [37])] [_, _, _, _, _, _, _, _, _, _, _, _, _, _]
      case' hm => exact dr
      case' hn => rfl
      case' hok => rfl
      case' hlen => rfl
      case' hd => rfl
      case' h0 => rfl
      case' hstep =>
       simp only [DAllG, push_cast, Option.isSome_some, Option.isSome_none]
       repeat' apply And.intro
       all_goals (apply DOne_V; simp only [push_cast, Nat.reduceAdd, Nat.reduceSub, Nat.reduceMul, Nat.reduceLT, Nat.reduceLeDiff, Nat.reduceEqDiff, Int.reduceToNat, ↓reduceIte, hgu] <;> first | exact rfl | omega | exact ⟨rfl, rfl⟩ | exact trivial | exact ⟨by omega, rfl⟩ | exact ⟨by omega, by omega, rfl⟩ | exact ⟨by omega, rfl, rfl⟩ | exact ⟨by omega, by omega, rfl, rfl⟩ | exact ⟨by omega, by omega, trivial⟩ | exact ⟨by omega, trivial⟩ | exact ⟨hil', rfl⟩ | exact ⟨hil', trivial⟩ | (refine (hdo _).to ?_; exact ⟨rfl, rfl⟩) | trace_state)
      case' hQ => skip
      simp only [push_cast, Nat.reduceAdd, Nat.reduceSub, Nat.reduceMul, Nat.reduceLT, Nat.reduceLeDiff, Nat.reduceEqDiff, Int.reduceToNat, ↓reduceIte]
      have hgs := fun h => p2.step hr huc (s := s) h
      refine cI (fun h4 => ?_) (fun h4 => ?_)
      · have hu2 := do_check (s := s) hr huc h4
        rw [exRow, if_neg (by simpa using h4)] at p3
        obtain ⟨v, hv⟩ : ∃ v, v = (doE rs u s).1 := ⟨_, rfl⟩
        have hgs := hgs h4
        rw [← hv] at hu2 p3 hgs ⊢
        have hvs := check_small hu2
        have hfd := fun X => ACall.forget (args := [.sl tk2 (encTs g'.ts), encT v]) (args' := [.sl .none (encTs g'.ts), encT v]) ⟨Forget.tok _ _, Forget.refl _, trivial⟩ (findR_ac g'.ts v (by omega) hgb (by omega) X)
        refine (hfd _).to ?_
        have hel := p2.es
        by_cases hm : v ∈ g'.ts
        · have hfi : findI g'.ts v = ((g'.ts.idxOf v : Nat) : Int) := if_pos hm
          have hex : exStep most i g' s v = ⟨g'.ts, g'.es ++ [⟨i, ((g'.ts.idxOf v : Nat) : Int), s⟩], g'.wh⟩ := by unfold exStep addTs addR addW; simp [hm]
          rw [hex] at hgs p3
          rw [hfi]
          simp only [push_cast, Nat.reduceAdd, Nat.reduceSub, Nat.reduceMul, Nat.reduceLT, Nat.reduceLeDiff, Nat.reduceEqDiff, Int.reduceToNat, ↓reduceIte]
          refine cI (fun h => absurd h (by omega)) (fun _ => ?_)
          refine cI (fun h => absurd h (by omega)) (fun _ => ?_)
          refine app1_L encE (sz := 4) (fun _ => rfl) cellE _ (H.length + 1) g'.es ⟨i, ((g'.ts.idxOf v : Nat) : Int), s⟩ _ rfl rfl (by exact (agetN _ _ 1).trans rfl) sl67 sz117 by117 zr117 rfl (by decide) (by decide) (by omega) ?_
          rw [← htk2]
          simp only [push_cast, Nat.reduceAdd, Nat.reduceSub, Nat.reduceMul, Nat.reduceLT, Nat.reduceLeDiff, Nat.reduceEqDiff, Int.reduceToNat, ↓reduceIte]
          repeat' first | refine ⟨by omega, ?_⟩ | refine cI (fun _ => ?_) (fun _ => ?_)
          exact loopW_n (j + 1, ⟨g'.ts, g'.es ++ [⟨i, ((g'.ts.idxOf v : Nat) : Int), s⟩], g'.wh⟩) ⟨by simp only; omega, hgs, p3⟩ (by simp only; omega) (by simp only [push_cast, Nat.reduceAdd, Nat.reduceSub, Nat.reduceMul, Nat.reduceLT, Nat.reduceLeDiff, Nat.reduceEqDiff, Int.reduceToNat, ↓reduceIte])
        · have hfi : findI g'.ts v = -1 := if_neg hm
          rw [hfi]
          simp only [push_cast, Nat.reduceAdd, Nat.reduceSub, Nat.reduceMul, Nat.reduceLT, Nat.reduceLeDiff, Nat.reduceEqDiff, Int.reduceToNat, ↓reduceIte]
          by_cases hmo : most ≤ g'.ts.length
          · have hex : exStep most i g' s v = ⟨g'.ts, g'.es, false⟩ := by unfold exStep addTs addR addW; simp [hm, hmo]
            rw [hex] at hgs p3
            refine cI (fun _ => ?_) (fun h => absurd (by decide) h)
            refine cI (fun _ => ?_) (fun h => absurd h (by omega))
            rw [← htk2]
            repeat' first | refine ⟨by omega, ?_⟩ | refine cI (fun _ => ?_) (fun _ => ?_)
            exact loopW_n (j + 1, ⟨g'.ts, g'.es, false⟩) ⟨by simp only; omega, hgs, p3⟩ (by simp only; omega) (by simp only [push_cast, Nat.reduceAdd, Nat.reduceSub, Nat.reduceMul, Nat.reduceLT, Nat.reduceLeDiff, Nat.reduceEqDiff, Int.reduceToNat, ↓reduceIte])
          · have hex : exStep most i g' s v = ⟨g'.ts ++ [v], g'.es ++ [⟨i, ((g'.ts.length : Nat) : Int), s⟩], g'.wh⟩ := by unfold exStep addTs addR addW; simp [hm, hmo]
            rw [hex] at hgs p3
            refine cI (fun _ => ?_) (fun h => absurd (by decide) h)
            refine cI (fun h => absurd h (by omega)) (fun _ => ?_)
            refine cI (fun _ => ?_) (fun h => absurd (by decide) h)
            refine app1_T _ H.length g'.ts v _ (by rw [htk2]; rfl) rfl (by exact aget0 _ _ _) sl23 sz25 by25 zr25 rfl (by decide) (by omega) ?_
            simp only [push_cast, Nat.reduceAdd, Nat.reduceSub, Nat.reduceMul, Nat.reduceLT, Nat.reduceLeDiff, Nat.reduceEqDiff, Int.reduceToNat, ↓reduceIte]
            refine app1_L encE (sz := 4) (fun _ => rfl) cellE _ (H.length + 1) g'.es ⟨i, ((g'.ts.length : Nat) : Int), s⟩ _ rfl rfl (by exact (agetN _ _ 1).trans rfl) sl67 sz117 by117 zr117 rfl (by decide) (by decide) (by omega) ?_
            simp only [push_cast, Nat.reduceAdd, Nat.reduceSub, Nat.reduceMul, Nat.reduceLT, Nat.reduceLeDiff, Nat.reduceEqDiff, Int.reduceToNat, ↓reduceIte]
            repeat' first | refine ⟨by omega, ?_⟩ | refine cI (fun _ => ?_) (fun _ => ?_)
            exact loopW_n (j + 1, ⟨g'.ts ++ [v], g'.es ++ [⟨i, ((g'.ts.length : Nat) : Int), s⟩], g'.wh⟩) ⟨by simp only; omega, hgs, p3⟩ (by simp only; omega) (by simp only [push_cast, Nat.reduceAdd, Nat.reduceSub, Nat.reduceMul, Nat.reduceLT, Nat.reduceLeDiff, Nat.reduceEqDiff, Int.reduceToNat, ↓reduceIte])
      · rw [exRow, if_pos h4] at p3
        rw [p3, if_pos h4] at q6
        rw [q6]
        simp only [push_cast, Nat.reduceAdd, Nat.reduceSub, Nat.reduceMul, Nat.reduceLT, Nat.reduceLeDiff, Nat.reduceEqDiff, Int.reduceToNat, ↓reduceIte, encGE, zeroG, encTs_nil, encL_nil]
    · rw [List.drop_of_length_le (show l.length ≤ j by omega)] at p3
      rw [p3] at q6
      have hes := p2.es
      have hne : g'.ts ≠ [] := fun e => by rw [e] at hil'; exact absurd hil' (by simp)
      repeat' first | refine ⟨by omega, ?_⟩ | refine cI (fun _ => ?_) (fun _ => ?_)
      refine loopW_n (i + 1, g') ⟨by simp only; omega, hne, p2.len, p2.ck, by simp only; omega, ?_⟩ (by simp only; omega) ?_
      · rw [q6]
        simp only [exRow, ne_eq, not_true_eq_false, if_false]
        rw [show most - (i + 1) = n by omega]
      · simp only [push_cast, Nat.reduceAdd, Nat.reduceSub, Nat.reduceMul, Nat.reduceLT, Nat.reduceLeDiff, Nat.reduceEqDiff, Int.reduceToNat, ↓reduceIte]
  · have hie : i = g.ts.length := by omega
    rw [hie, expF_end] at q6
    rw [q6]
    rw [← htk]
    simp only [push_cast, Nat.reduceAdd, Nat.reduceSub, Nat.reduceMul, Nat.reduceLT, Nat.reduceLeDiff, Nat.reduceEqDiff, Int.reduceToNat, ↓reduceIte, encGE]
end Ab
set_option maxRecDepth 10000
namespace Ab
open Go Go.Proofs
section
variable {P : Program} {ro : Option Nat} {H0 : List AObj} {Q : Exit → ASt → Prop} {st : ASt} {K : AV → List AObj → Prop} {dst : Option Tmp} {ty : TypeId} {pos : String} {after : Array Edge} {guard : Option (Nat × Bool)}
inductive ToJ (m : Nat) (h : List AObj) : AV → AV → Prop
  | fgt {r v : AV} (hf : fgtW r v) : ToJ m h r v
  | row (k e sz : Nat) {xs a a' b b' c c' : List AV} (hk : h[k]? = some (grO e sz xs)) (hl : (flat xs).length = xs.length * sz) (hm : m ≤ k) (hsc : ScopedL m (flat xs)) (ha : fgtL a a') (hb : fgtL b b') (hc : fgtL c c') : ToJ m h (.tup (.agg (a ++ grS k xs :: b) :: c)) (.tup (.agg (a' ++ .sl .none xs :: b') :: c'))
def finJJ (H : List AObj) (m : Nat) (v : AV) (H1 h : List AObj) (r : AV) : Prop := OutOk H h m ∧ ToJ m h r v ∧ Scoped m v ∧ h.take m = H1
def finVJ (P : Program) (H : List AObj) (m : Nat) (v : AV) (H1 : List AObj) (rs : List ResultVar) : Exit → ASt → Prop
  | .normal, st => finR P rs st (finJJ H m v H1 st.heap)
  | .ret, st => finR P rs st (finJJ H m v H1 st.heap)
  | _, _ => False
theorem ACall_VJA {f : Nat} {fn : Func} {c : Code} {args : List AV} {H H1 : List AObj} {v : AV} (m n : Nat) (rs : List ResultVar) (hf : P.funcs[f]? = some fn) (hb : fn.body = some c) (hn : fn.ntmps - args.length = n) (hr : fn.results = rs.toArray)
    (h : AW P none H c (finVJ P H m v H1 rs) ⟨args ++ List.replicate n (.lit undef), H⟩) : ACall P f args H (fun r H' => r = v ∧ H' = H1) := by
  subst hn
  intro C vs hg hH hsz hv
  refine ACall_of_AW (P := P) hf hb ?_ C vs hg hH hsz hv (R := fun r H' => r = v ∧ H' = H1)
  refine AW_mono h ?_
  intro e st' hh
  have key : finR P rs st' (finJJ H m v H1 st'.heap) → ∃ r, ResOk P fn st' r ∧ finJJ H m v H1 st'.heap r := by
    intro hh
    cases rs with
    | nil => exact ⟨.tup [], by unfold ResOk; rw [hr], hh⟩
    | cons x rs =>
      cases rs with
      | nil =>
        refine ⟨_, ?_, hh.2⟩
        have := resPre_spec hh.1
        unfold ResOk; rw [hr]
        cases x with
        | tmp t => rfl
        | cell a t => exact this
      | cons y l =>
        refine ⟨_, ?_, hh.2⟩
        unfold ResOk; rw [hr]
        have h2 := resPres_spec hh.1
        cases x <;> exact ⟨_, rfl, h2⟩
  have fin : (∃ r, ResOk P fn st' r ∧ finJJ H m v H1 st'.heap r) → ∀ C1 a, Good C1 → C1.H = st'.heap → SRel C1 st' a → ∃ u r C', (results fn a.tmps).run P C1.w = .ok u C1.w ∧ C'.w = C1.w ∧ Good C' ∧ (∀ C0, Ext C0 C1 → C0.H = H → Good C0 → Ext C0 C') ∧ VRel C' r u ∧ (r = v ∧ C'.H = H1) := by
    rintro ⟨r, hr, ho, hto, hsc, ht⟩ C1 a hg1 hH1 hs1
    obtain ⟨u, hrun, hrel⟩ := results_run hr hg1 hH1 hs1
    have ho' : OutOk C.H C1.H m := by rw [hH, hH1]; exact ho
    have hgt : Good (C1.take m) := Good.take hg hg1 ho'
    have hht : (C1.take m).H = H1 := by show C1.H.take m = H1; rw [hH1]; exact ht
    cases hto with
    | fgt hf => exact ⟨u, v, C1.take m, hrun, rfl, hgt, fun C0 hx h0 _ => hx.take (by rw [h0]; exact ho.2.1), (fgtW_spec _ _ hf _ _ hrel).take hsc, rfl, hht⟩
    | @row k e sz xs ca ca' cb cb' cc cc' hk hl hm hs2 hca hcb hcc =>
      cases hrel with
      | tup _ us hsz hrel =>
        have h0 := hrel 0 (by simp)
        obtain ⟨vs, hxx, hvs, hvr⟩ := h0.agg_inv
        have hk0 : ca.length < (ca ++ grS k xs :: cb).length := by simp
        have hv0 := hvr ca.length hk0
        rw [List.getElem_append_right (Nat.le_refl _)] at hv0
        simp only [Nat.sub_self, List.getElem_cons_zero] at hv0
        obtain ⟨C', e1, e2, e3, e4, e5⟩ := gr_frz hg1 hv0 (by rw [hH1]; exact hk) hl hm hgt hs2
        obtain ⟨pa, qa⟩ := fgtL_spec _ _ hca
        obtain ⟨pb, qb⟩ := fgtL_spec _ _ hcb
        obtain ⟨pc, qc⟩ := fgtL_spec _ _ hcc
        simp only [Scoped, ScopedL] at hsc
        obtain ⟨hsa, hscc⟩ := hsc
        have hsc1 := ScopedL_iff.1 hsa
        refine ⟨_, .tup (.agg (ca' ++ .sl .none xs :: cb') :: cc'), C', hrun, e1, e3, fun C0 hx h0 _ => (hx.take (by rw [h0]; exact ho.2.1)).trans e4, .tup _ us (by simp only [List.length_cons] at hsz ⊢; omega) (fun i hi => ?_), rfl, e2.trans hht⟩
        match i, hi with
        | 0, _ =>
          simp only [List.getElem_cons_zero]
          rw [hxx]
          refine .agg _ vs (by simp only [List.length_cons, List.length_append] at hvs ⊢; omega) (fun j hj => ?_)
          have hj0 : j < (ca ++ grS k xs :: cb).length := by simp only [List.length_cons, List.length_append] at hj ⊢; omega
          have h3 := hvr j hj0
          have hsj := hsc1 _ (List.getElem_mem hj)
          rcases Nat.lt_trichotomy j ca.length with hlt | heq | hgt2
          · rw [List.getElem_append_left hlt] at h3
            rw [List.getElem_append_left (show j < ca'.length by omega)] at hsj ⊢
            exact ((qa j hlt (by omega) _ _ h3).take hsj).ext e4
          · subst heq
            have e9 : (ca' ++ AV.sl Tok.none xs :: cb')[ca.length]'hj = AV.sl Tok.none xs := by
              rw [List.getElem_append_right (by omega)]; simp only [pa, Nat.sub_self, List.getElem_cons_zero]
            rw [e9]
            exact e5
          · obtain ⟨d, hd⟩ : ∃ d, j = ca.length + 1 + d := ⟨j - (ca.length + 1), by omega⟩
            subst hd
            have hdb : d < cb.length := by simp only [List.length_cons, List.length_append] at hj0; omega
            have e8 : (ca ++ grS k xs :: cb)[ca.length + 1 + d]'hj0 = cb[d]'hdb := by
              rw [List.getElem_append_right (by omega)]; simp only [show ca.length + 1 + d - ca.length = d + 1 by omega, List.getElem_cons_succ]
            have e9 : (ca' ++ AV.sl Tok.none xs :: cb')[ca.length + 1 + d]'hj = cb'[d]'(by omega) := by
              rw [List.getElem_append_right (by omega)]; simp only [show ca.length + 1 + d - ca'.length = d + 1 by omega, List.getElem_cons_succ]
            rw [e8] at h3
            rw [e9] at hsj ⊢
            exact ((qb d hdb (by omega) _ _ h3).take hsj).ext e4
        | i + 1, hi =>
          simp only [List.getElem_cons_succ]
          have hi1 : i < cc'.length := by simpa using hi
          have h3 := hrel (i + 1) (by simp only [List.length_cons]; omega)
          simp only [List.getElem_cons_succ] at h3
          exact ((qc i (by omega) hi1 _ _ h3).take (ScopedL_iff.1 hscc _ (List.getElem_mem hi1))).ext e4
  cases e <;> first
    | exact fin (key hh)
    | exact hh.elim
end
section rules
variable {P : Program} {st : ASt}
theorem finVJ_n {H H1 : List AObj} {m : Nat} {v : AV} {rs : List ResultVar} : finVJ P H m v H1 rs .normal st = finR P rs st (finJJ H m v H1 st.heap) := (rfl)
theorem finVJ_r {H H1 : List AObj} {m : Nat} {v : AV} {rs : List ResultVar} : finVJ P H m v H1 rs .ret st = finR P rs st (finJJ H m v H1 st.heap) := (rfl)
end rules
attribute [push_cast] finVJ_n finVJ_r finJJ
def fstI {α : Type} (p : α → Bool) (xs : List α) : Int := match xs.findIdx? p with | some i => (i : Int) | none => -1
theorem fstI_at {α : Type} {p : α → Bool} {xs : List α} {i : Nat} (h : i < xs.length) (h1 : p xs[i] = true) (h2 : ∀ x, x ∈ xs.take i → p x = false) : fstI p xs = (i : Int) := by
  have e : xs.findIdx? p = some i := List.findIdx?_eq_some_iff_getElem.2 ⟨h, h1, fun j hj => by
    have := h2 xs[j] (List.mem_take_iff_getElem.2 ⟨j, by omega, rfl⟩)
    rw [this]; exact Bool.false_ne_true⟩
  unfold fstI; rw [e]
theorem fstI_none {α : Type} {p : α → Bool} {xs : List α} (h : ∀ x, x ∈ xs → p x = false) : fstI p xs = -1 := by
  unfold fstI; rw [List.findIdx?_eq_none_iff.2 h]
theorem fstT_ac (ts : List Term) (g : Nat) (caps : List AV) (p : Term → Bool) (H : List AObj) (hlen : ts.length < 1099511627776) (hg : callOk Tryz.prog g = true) (hsc : ScopedL H.length caps)
    (hf : ∀ i (h : i < ts.length), ACall Tryz.prog g (encT ts[i] :: caps) H (fun r H' => r = .bool (p ts[i]) ∧ H' = H)) :
    ACall Tryz.prog 76 [.sl .none (encTs ts), .fn g caps] H (fun r H' => r = .int .i64 (fstI p ts) ∧ H' = H) := by
  refine ACall_V (H.length) 17 [.tmp 4] Tryz.func76 rfl rfl rfl ?_
  simp only [push_cast, Nat.reduceAdd, Nat.reduceSub, Nat.reduceMul, Nat.reduceLT, Nat.reduceLeDiff, Nat.reduceEqDiff, Int.reduceToNat, ↓reduceIte]
  refine AW_loopW (maskG 19 [0, 0, 5, 0]) (fun (i : Nat) => [(8, .int .i64 i)]) (fun _ => H) (fun i => i ≤ ts.length ∧ ∀ x, x ∈ ts.take i → p x = false) (fun i => ts.length - i) 0 ⟨Nat.zero_le _, by simp⟩ (by simp only [push_cast, Nat.reduceAdd, Nat.reduceSub, Nat.reduceMul, Nat.reduceLT, Nat.reduceLeDiff, Nat.reduceEqDiff, Int.reduceToNat, ↓reduceIte, hsc]) (fun i hi => ?_)
  obtain ⟨hi1, hi2⟩ := hi
  simp only [push_cast, Nat.reduceAdd, Nat.reduceSub, Nat.reduceMul, Nat.reduceLT, Nat.reduceLeDiff, Nat.reduceEqDiff, Int.reduceToNat, ↓reduceIte, hg]
  refine cI (fun h => ?_) (fun h => ?_)
  · have hil : i < ts.length := by omega
    refine ⟨hil, (hf i hil).to ?_⟩
    simp only [push_cast, Nat.reduceAdd, Nat.reduceSub, Nat.reduceMul, Nat.reduceLT, Nat.reduceLeDiff, Nat.reduceEqDiff, Int.reduceToNat, ↓reduceIte]
    refine cI (fun hp => ?_) (fun hp => ?_)
    · rw [fstI_at hil hp hi2]
    · repeat' first | refine ⟨by omega, ?_⟩ | refine cI (fun _ => ?_) (fun _ => ?_)
      refine loopW_n (i + 1) ⟨by omega, fun x hx => ?_⟩ (by omega) (by simp only [push_cast, Nat.reduceAdd, Nat.reduceSub, Nat.reduceMul, Nat.reduceLT, Nat.reduceLeDiff, Nat.reduceEqDiff, Int.reduceToNat, ↓reduceIte, hsc])
      rw [List.take_succ_eq_append_getElem hil] at hx
      rcases List.mem_append.1 hx with hx | hx
      · exact hi2 x hx
      · rw [List.mem_singleton] at hx; rw [hx]; simpa using hp
  · rw [List.take_of_length_le (show ts.length ≤ i by omega)] at hi2
    rw [fstI_none hi2]
theorem fstE_ac (es : List Edg) (g : Nat) (caps : List AV) (p : Edg → Bool) (H : List AObj) (hlen : es.length < 1099511627776) (hg : callOk Tryz.prog g = true) (hsc : ScopedL H.length caps)
    (hf : ∀ i (h : i < es.length), ACall Tryz.prog g (encE es[i] :: caps) H (fun r H' => r = .bool (p es[i]) ∧ H' = H)) :
    ACall Tryz.prog 79 [.sl .none (encL encE es), .fn g caps] H (fun r H' => r = .int .i64 (fstI p es) ∧ H' = H) := by
  refine ACall_V (H.length) 17 [.tmp 4] Tryz.func79 rfl rfl rfl ?_
  simp only [push_cast, Nat.reduceAdd, Nat.reduceSub, Nat.reduceMul, Nat.reduceLT, Nat.reduceLeDiff, Nat.reduceEqDiff, Int.reduceToNat, ↓reduceIte]
  refine AW_loopW (maskG 19 [0, 0, 5, 0]) (fun (i : Nat) => [(8, .int .i64 i)]) (fun _ => H) (fun i => i ≤ es.length ∧ ∀ x, x ∈ es.take i → p x = false) (fun i => es.length - i) 0 ⟨Nat.zero_le _, by simp⟩ (by simp only [push_cast, Nat.reduceAdd, Nat.reduceSub, Nat.reduceMul, Nat.reduceLT, Nat.reduceLeDiff, Nat.reduceEqDiff, Int.reduceToNat, ↓reduceIte, hsc]) (fun i hi => ?_)
  obtain ⟨hi1, hi2⟩ := hi
  simp only [push_cast, Nat.reduceAdd, Nat.reduceSub, Nat.reduceMul, Nat.reduceLT, Nat.reduceLeDiff, Nat.reduceEqDiff, Int.reduceToNat, ↓reduceIte, hg]
  refine cI (fun h => ?_) (fun h => ?_)
  · have hil : i < es.length := by omega
    refine ⟨hil, (hf i hil).to ?_⟩
    simp only [push_cast, Nat.reduceAdd, Nat.reduceSub, Nat.reduceMul, Nat.reduceLT, Nat.reduceLeDiff, Nat.reduceEqDiff, Int.reduceToNat, ↓reduceIte]
    refine cI (fun hp => ?_) (fun hp => ?_)
    · rw [fstI_at hil hp hi2]
    · repeat' first | refine ⟨by omega, ?_⟩ | refine cI (fun _ => ?_) (fun _ => ?_)
      refine loopW_n (i + 1) ⟨by omega, fun x hx => ?_⟩ (by omega) (by simp only [push_cast, Nat.reduceAdd, Nat.reduceSub, Nat.reduceMul, Nat.reduceLT, Nat.reduceLeDiff, Nat.reduceEqDiff, Int.reduceToNat, ↓reduceIte, hsc])
      rw [List.take_succ_eq_append_getElem hil] at hx
      rcases List.mem_append.1 hx with hx | hx
      · exact hi2 x hx
      · rw [List.mem_singleton] at hx; rw [hx]; simpa using hp
  · rw [List.take_of_length_le (show es.length ≤ i by omega)] at hi2
    rw [fstI_none hi2]
theorem path1_ac (x u : Term) (b : Nat) (hx : x.bulk ≤ 1099511627775) (hu : u.bulk ≤ 1099511627775) (H : List AObj) (hb : H[b]? = some (.cells [.str u.name, .bool u.var, .sl .none (encTs u.args)])) :
    ACall Tryz.prog 77 [encT x, .ptr b 0] H (fun r H' => r = .bool (decide (x = u)) ∧ H' = H) := by
  refine ACall_V (H.length) 5 [.tmp 3] Tryz.func77 rfl rfl rfl ?_
  have hb' : (H ++ [.cells [.str x.name, .bool x.var, .sl .none (encTs x.args)]])[b]? = some (.cells [.str u.name, .bool u.var, .sl .none (encTs u.args)]) := by
    rw [List.getElem?_append_left (List.getElem?_eq_some_iff.1 hb).1]; exact hb
  simp only [push_cast, Nat.reduceAdd, Nat.reduceSub, Nat.reduceMul, Nat.reduceLT, Nat.reduceLeDiff, Nat.reduceEqDiff, Int.reduceToNat, ↓reduceIte, hb']
  refine (equal_ac x u hx hu _).to ?_
  simp only [push_cast, Nat.reduceAdd, Nat.reduceSub, Nat.reduceMul, Nat.reduceLT, Nat.reduceLeDiff, Nat.reduceEqDiff, Int.reduceToNat, ↓reduceIte]
theorem path2_ac (x : Edg) (a : Int) (b : Nat) (H : List AObj) (hb : H[b]? = some (.cells [.int .i64 a])) :
    ACall Tryz.prog 80 [encE x, .ptr b 0] H (fun r H' => r = .bool (decide (x.to = a)) ∧ H' = H) := by
  refine ACall_V (H.length) 6 [.tmp 3] Tryz.func80 rfl rfl rfl ?_
  have hb' : (H ++ [.cells [.int .i64 x.fr, .int .i64 x.to, .int .i64 x.st.1, .sl .none (encP x.st.2)]])[b]? = some (.cells [.int .i64 a]) := by
    rw [List.getElem?_append_left (List.getElem?_eq_some_iff.1 hb).1]; exact hb
  simp only [push_cast, Nat.reduceAdd, Nat.reduceSub, Nat.reduceMul, Nat.reduceLT, Nat.reduceLeDiff, Nat.reduceEqDiff, Int.reduceToNat, ↓reduceIte, hb']
theorem flS_len (l : List (Int × List Int)) : (flat (encL encSt l)).length = l.length * 2 := by rw [flat_length (uni_encL (enc := encSt) (k := 2) (fun _ => rfl) l), encL_length]
theorem flS_app (a b : List (Int × List Int)) : flat (encL encSt (a ++ b)) = flat (encL encSt a) ++ flat (encL encSt b) := by simp [flat, encL]
theorem flS_take (l : List (Int × List Int)) (i : Nat) (h : i ≤ l.length) : (flat (encL encSt l)).take (i * 2) = flat (encL encSt (l.take i)) := by
  conv => lhs; rw [← List.take_append_drop i l, flS_app]
  rw [List.take_left' (by rw [flS_len, List.length_take]; omega)]
theorem flS_drop (l : List (Int × List Int)) (i : Nat) (h : i ≤ l.length) : (flat (encL encSt l)).drop (i * 2) = flat (encL encSt (l.drop i)) := by
  conv => lhs; rw [← List.take_append_drop i l, flS_app]
  rw [List.drop_left' (by rw [flS_len, List.length_take]; omega)]
theorem flS_get (l : List (Int × List Int)) (i : Nat) (h : i < l.length) : ((flat (encL encSt l)).drop (i * 2)).take 2 = [.int .i64 l[i].1, .sl .none (encP l[i].2)] := by
  rw [flS_drop l i (by omega), List.drop_eq_getElem_cons h]
  rfl
theorem flS_set (l : List (Int × List Int)) (i : Nat) (h : i < l.length) (s : Int × List Int) : splice (flat (encL encSt l)) (i * 2) [.int .i64 s.1, .sl .none (encP s.2)] = flat (encL encSt (l.set i s)) := by
  unfold splice
  rw [flS_take l i (by omega), show i * 2 + [AV.int .i64 s.1, .sl .none (encP s.2)].length = (i + 1) * 2 by simp; omega, flS_drop l (i + 1) (by omega), List.set_eq_take_append_cons_drop, if_pos h, flS_app, List.append_assoc]
  rfl
theorem flS_sc (n : Nat) (l : List (Int × List Int)) : ScopedL n (flat (encL encSt l)) = True := by
  refine eq_true ?_
  rw [ScopedL_iff]
  intro v hv
  unfold flat encL at hv
  rw [List.mem_flatMap] at hv
  obtain ⟨a, ha, hv⟩ := hv
  obtain ⟨b, _, rfl⟩ := List.mem_map.1 ha
  simp only [AV.cells, List.mem_cons, List.not_mem_nil, or_false] at hv
  rcases hv with rfl | rfl <;> simp [Scoped, scoped_encP]
def revW (l L : List (Int × List Int)) (i : Nat) : Prop := L.length = l.length ∧ ∀ k, k < l.length → L[k]? = if k < i ∨ l.length - 1 - i < k then l[l.length - 1 - k]? else l[k]?
theorem revW_0 (l : List (Int × List Int)) : revW l l 0 := ⟨rfl, fun k hk => by rw [if_neg (by omega)]⟩
theorem revW_end {l L : List (Int × List Int)} {i : Nat} (h : revW l L i) (hi : l.length ≤ 2 * i + 1) : L = l.reverse := by
  refine List.ext_getElem? fun k => ?_
  by_cases hk : k < l.length
  · rw [h.2 k hk, List.getElem?_reverse hk]
    by_cases h1 : k < i ∨ l.length - 1 - i < k
    · rw [if_pos h1]
    · rw [if_neg h1, show l.length - 1 - k = k by omega]
  · rw [List.getElem?_eq_none (by rw [h.1]; omega), List.getElem?_eq_none (by simp; omega)]
theorem revW_step {l L : List (Int × List Int)} {i : Nat} (h : revW l L i) (hi : 2 * i + 1 < l.length) : revW l ((L.set i (L[l.length - 1 - i]'(by have := h.1; omega))).set (l.length - 1 - i) (L[i]'(by have := h.1; omega))) (i + 1) := by
  obtain ⟨h1, h2⟩ := h
  have e1 : L[i]? = l[i]? := by rw [h2 i (by omega), if_neg (by omega)]
  have e2 : L[l.length - 1 - i]? = l[l.length - 1 - i]? := by rw [h2 _ (by omega), if_neg (by omega)]
  refine ⟨by simp [h1], fun k hk => ?_⟩
  by_cases k1 : k = l.length - 1 - i
  · subst k1
    rw [List.getElem?_set_self (by simp [h1]; omega), if_pos (.inr (by omega)), ← List.getElem?_eq_getElem (by omega), e1, show l.length - 1 - (l.length - 1 - i) = i by omega]
  · rw [List.getElem?_set_ne (by omega)]
    by_cases k2 : k = i
    · subst k2
      rw [List.getElem?_set_self (by omega), if_pos (.inl (by omega)), ← List.getElem?_eq_getElem (by omega), e2]
    · rw [List.getElem?_set_ne (by omega), h2 k hk]
      by_cases c : k < i ∨ l.length - 1 - i < k
      · rw [if_pos c, if_pos (by omega)]
      · rw [if_neg c, if_neg (by omega)]
theorem grS_St (k : Nat) (s : Int × List Int) (l : List (Int × List Int)) : grS k (encL encSt (s :: l)) = .gr k (l.length + 1) := by
  show AV.gr k (encL encSt (s :: l)).length = _
  rw [encL_length]; rfl
theorem grO_St (e : Nat) {l : List (Int × List Int)} (h : l ≠ []) : grO e 2 (encL encSt l) = .grow e 2 (flat (encL encSt l)) := by
  cases l with
  | nil => exact absurd rfl h
  | cons a r => rfl
theorem osc_grSt (n e : Nat) (l : List (Int × List Int)) : OScoped n (grO e 2 (encL encSt l)) := of_eq_true (osc_grO _ _ _ _ (of_eq_true (flS_sc n l)))
set_option maxHeartbeats 4000000 in
theorem reverse_ac (k : Nat) (l : List (Int × List Int)) (hl : l.length < 1099511627776) (H : List AObj) (hk : H[k]? = some (grO 86 2 (encL encSt l))) :
    ACall Tryz.prog 81 [grS k (encL encSt l)] H (fun r H' => r = .tup [] ∧ H' = H.set k (grO 86 2 (encL encSt l.reverse))) := by
  cases l with
  | nil =>
    have e : H.set k (grO 86 2 (encL encSt ([] : List (Int × List Int)).reverse)) = H := by
      refine List.ext_getElem? fun j => ?_
      by_cases hj : k = j
      · subst hj; rw [List.getElem?_set_self (List.getElem?_eq_some_iff.1 hk).1, hk]; rfl
      · rw [List.getElem?_set_ne hj]
    rw [e]
    refine ACall_V (H.length) 27 [] Tryz.func81 rfl rfl rfl ?_
    simp only [push_cast, Nat.reduceAdd, Nat.reduceSub, Nat.reduceMul, Nat.reduceLT, Nat.reduceLeDiff, Nat.reduceEqDiff, Int.reduceToNat, ↓reduceIte, encL_nil, grS_nil]
    refine ⟨by omega, ?_⟩
    refine AW_loopW (maskG 28 [0, 1, 0]) (fun (_ : Nat) => []) (fun _ => H) (fun _ => True) (fun i => i) 0 trivial (by simp only [push_cast, Nat.reduceAdd, Nat.reduceSub, Nat.reduceMul, Nat.reduceLT, Nat.reduceLeDiff, Nat.reduceEqDiff, Int.reduceToNat, ↓reduceIte]) (fun i hi => ?_)
    simp only [push_cast, Nat.reduceAdd, Nat.reduceSub, Nat.reduceMul, Nat.reduceLT, Nat.reduceLeDiff, Nat.reduceEqDiff, Int.reduceToNat, ↓reduceIte]
    refine cI (fun h => absurd h (by omega)) (fun _ => ?_)
    simp only [push_cast, Nat.reduceAdd, Nat.reduceSub, Nat.reduceMul, Nat.reduceLT, Nat.reduceLeDiff, Nat.reduceEqDiff, Int.reduceToNat, ↓reduceIte]
  | cons s0 l0 =>
    obtain ⟨l, hL⟩ : ∃ l, l = s0 :: l0 := ⟨_, rfl⟩
    have hne : l ≠ [] := by rw [hL]; simp
    have hll : l.length = l0.length + 1 := by rw [hL]; rfl
    rw [grS_St]
    rw [← hL] at hk hl ⊢
    have hkl := (List.getElem?_eq_some_iff.1 hk).1
    rw [grO_St _ hne] at hk
    refine ACall_V (H.length) 27 [] Tryz.func81 rfl rfl rfl ?_
    simp only [push_cast, Nat.reduceAdd, Nat.reduceSub, Nat.reduceMul, Nat.reduceLT, Nat.reduceLeDiff, Nat.reduceEqDiff, Int.reduceToNat, ↓reduceIte]
    refine ⟨by omega, ?_⟩
    have e0 : ((l0.length : Nat) : Int) + 1 - 1 = ((l.length - 1 - 0 : Nat) : Int) := by omega
    have hset : ∀ L : List (Int × List Int), (H.set k (AObj.grow 86 2 (flat (encL encSt L))))[k]? = some (AObj.grow 86 2 (flat (encL encSt L))) := fun L => List.getElem?_set_self hkl
    have hs0 : H = H.set k (AObj.grow 86 2 (flat (encL encSt l))) := by
      refine List.ext_getElem? fun j => ?_
      by_cases hj : k = j
      · subst hj; rw [List.getElem?_set_self hkl, hk]
      · rw [List.getElem?_set_ne hj]
    have hok : ∀ L, OutOk H (H.set k (AObj.grow 86 2 (flat (encL encSt L)))) H.length := fun L => outok_set (of_eq_true (flS_sc _ L))
    refine AW_loopW (maskG 28 [0, 1, 0]) (fun (q : Nat × List (Int × List Int)) => [(2, .int .i64 q.1), (3, .int .i64 ((l.length - 1 - q.1 : Nat) : Int))]) (fun q => H.set k (.grow 86 2 (flat (encL encSt q.2)))) (fun q => 2 * q.1 ≤ l.length ∧ revW l q.2 q.1) (fun q => l.length - q.1) (0, l) ⟨by simp, revW_0 l⟩ (by simp only [push_cast, Nat.reduceAdd, Nat.reduceSub, Nat.reduceMul, Nat.reduceLT, Nat.reduceLeDiff, Nat.reduceEqDiff, Int.reduceToNat, ↓reduceIte, ← hs0]; omega) (fun q hq => ?_)
    obtain ⟨i, L⟩ := q
    obtain ⟨q1, q2⟩ := hq
    simp only at q1 q2
    have hLl := q2.1
    simp only [push_cast, Nat.reduceAdd, Nat.reduceSub, Nat.reduceMul, Nat.reduceLT, Nat.reduceLeDiff, Nat.reduceEqDiff, Int.reduceToNat, ↓reduceIte]
    refine cI (fun h => ?_) (fun h => ?_)
    · have hi : 2 * i + 1 < l.length := by omega
      have hst := revW_step q2 hi
      have hil : i < L.length := by omega
      have hjl : l.length - 1 - i < L.length := by omega
      have g1 := flS_get L i hil
      have g2 := flS_get L (l.length - 1 - i) hjl
      obtain ⟨x, hx⟩ : ∃ x, x = L[i]'hil := ⟨_, rfl⟩
      obtain ⟨y, hy⟩ : ∃ y, y = L[l.length - 1 - i]'hjl := ⟨_, rfl⟩
      rw [← hx] at g1 hst
      rw [← hy] at g2 hst
      have fl := flS_len L
      have fl2 := flS_len (L.set i y)
      rw [List.length_set] at fl2
      have s1 := flS_set L i hil y
      have s2 := flS_set (L.set i y) (l.length - 1 - i) (by rw [List.length_set]; exact hjl) x
      simp only [splice, List.append_assoc, List.cons_append, List.nil_append, List.length_cons, List.length_nil, Nat.zero_add, Nat.reduceAdd] at s1 s2
      have hset1 := hset L
      have hset2 := hset (L.set i y)
      apply AW_drawE [some 14, some 15, some 16, some 17, some 18, some 19, some 20, some 21, some 22, some 23, some 24, some 25, some 26, none, some 27, none] [([false, false], _), ([true, false], _), ([true, true], _)] [none, none, none, none, none, none, none, none, none, none, none, none, none, some 0, none, some 1] 2 [(0, [false, false], [0]), (1, [false, false], [2]), (2, [false, false], [0]), (3, [false, false], [3]), (4, [false, false], [0]), (5, [false, false], [3]), (6, [false, false], [18, 0]), (7, [false, false], [20]), (8, [false, false], [0]), (9, [false, false], [2]), (10, [false, false], [22, 0]), (11, [false, false], [24]), (12, [false, false], [14, 0]), (13, [false, false], [21, 4]), (14, [true, false], [16, 0]), (15, [true, false], [25, 1]), (2, [true, false], [0]), (3, [true, false], [3]), (8, [true, false], [0]), (9, [true, false], [2]), (10, [true, false], [22, 0])] [_, _, _, _, _, _, _, _, _, _, _, _, _, _, _, _]
      case' hm => exact dr
      case' hn => rfl
      case' hok => rfl
      case' hlen => rfl
      case' hd => rfl
      case' h0 => rfl
      case' hstep =>
       simp only [DAllG, push_cast, Option.isSome_some, Option.isSome_none]
       repeat' apply And.intro
       all_goals (apply DOne_V; simp only [push_cast, Nat.reduceAdd, Nat.reduceSub, Nat.reduceMul, Nat.reduceLT, Nat.reduceLeDiff, Nat.reduceEqDiff, Int.reduceToNat, ↓reduceIte, hset1, hset2, g1, g2, fl, fl2, s1, s2, List.set_set] <;> first | exact rfl | omega | exact ⟨rfl, rfl⟩ | exact trivial | exact ⟨by omega, rfl⟩ | exact ⟨by omega, by omega, rfl⟩ | exact ⟨by omega, rfl, rfl⟩ | exact ⟨by omega, by omega, rfl, rfl⟩ | exact ⟨by omega, by omega, rfl⟩ | exact ⟨by omega, by omega, trivial⟩ | exact ⟨by omega, rfl, rfl⟩ | exact ⟨by omega, trivial⟩ | trace_state)
      case' hQ => skip
      simp only [push_cast, Nat.reduceAdd, Nat.reduceSub, Nat.reduceMul, Nat.reduceLT, Nat.reduceLeDiff, Nat.reduceEqDiff, Int.reduceToNat, ↓reduceIte]
      refine ⟨by omega, by omega, ?_⟩
      exact loopW_n (i + 1, (L.set i y).set (l.length - 1 - i) x) ⟨by simp only; omega, hst⟩ (by simp only; omega) (by simp only [push_cast, Nat.reduceAdd, Nat.reduceSub, Nat.reduceMul, Nat.reduceLT, Nat.reduceLeDiff, Nat.reduceEqDiff, Int.reduceToNat, ↓reduceIte]; rw [List.length_set]; exact ⟨hok _, hkl, by omega⟩)
    · have e := revW_end q2 (by omega)
      rw [grO_St _ (by simpa using hne), ← e]
      exact ⟨hok L, List.take_of_length_le (by simp)⟩
end Ab
set_option maxRecDepth 10000
namespace Ab
open Go Go.Proofs
abbrev ChP := Term × List (Int × List Int)
theorem cellSt5 : ∀ (x : Int × List Int) c, c ∈ (encSt x).cells → c.isCell = true := by
  intro x c hc; simp [AV.cells] at hc; rcases hc with rfl | rfl <;> rfl
def zeroCh : ChP := (zeroT, [])
theorem zeroCh_enc : encCh zeroCh = .agg [.str [], .bool false, .sl .none [], .sl .none []] := by
  have h : encTs zeroT.args = [] := encTs_nil
  show AV.agg [.str zeroT.name, .bool zeroT.var, .sl .none (encTs zeroT.args), .sl .none (encL encSt [])] = _
  rw [h]; rfl
end Ab
set_option maxRecDepth 10000
namespace Ab
open Go Go.Proofs
theorem run_append {rs : List (Term × Term)} (l2 : List (Int × List Int)) : ∀ (l1 : List (Int × List Int)) (pre : List Term) (t : Term) (q : List Term) (u : Term), runF rs (pre ++ [t]) t l1 = (q ++ [u], 0) → runF rs (pre ++ [t]) t (l1 ++ l2) = runF rs (q ++ [u]) u l2
  | [], pre, t, q, u, h => by
    rw [runF, Prod.mk.injEq] at h
    obtain ⟨e1, e2⟩ := List.append_inj' h.1 rfl
    injection e2 with e2
    rw [List.nil_append, e1, e2]
  | s :: l1, pre, t, q, u, h => by
    rw [runF] at h
    rw [List.cons_append, runF]
    by_cases hd : (doE rs t s).2 ≠ 0
    · rw [if_pos hd] at h
      injection h with _ h
      exact absurd h hd
    · rw [if_neg hd] at h ⊢
      exact run_append l2 l1 (pre ++ [t]) (doE rs t s).1 q u h
theorem lastR_ac (rs : List (Term × Term)) (hru : RuB rs) (c : ChP) (hc : ChB c) (h0 : (termsE rs c).2 = 0) (H : List AObj) :
    ACall Tryz.prog 21 [.sl .none (encL encRu rs), encCh c] H (fun r H' => r = encT ((termsE rs c).1.getLastD zeroT) ∧ H' = H) := by
  obtain ⟨pre, u, he, hp, hp2⟩ := terms_last h0
  refine ACall_V (H.length) 17 [.cell 4 25] Tryz.func21 rfl rfl rfl ?_
  simp only [push_cast, Nat.reduceAdd, Nat.reduceSub, Nat.reduceMul, Nat.reduceLT, Nat.reduceLeDiff, Nat.reduceEqDiff, Int.reduceToNat, ↓reduceIte]
  refine (termsR_ac rs hru c hc.1 hc.2.1 hc.2.2 _).to ?_
  simp only [push_cast, Nat.reduceAdd, Nat.reduceSub, Nat.reduceMul, Nat.reduceLT, Nat.reduceLeDiff, Nat.reduceEqDiff, Int.reduceToNat, ↓reduceIte, encTE]
  rw [he]
  have hl : (pre ++ [u]).length = pre.length + 1 := by simp
  have hlast : (pre ++ [u]).getLastD zeroT = u := by simp
  rw [hlast]
  simp only [push_cast, Nat.reduceAdd, Nat.reduceSub, Nat.reduceMul, Nat.reduceLT, Nat.reduceLeDiff, Nat.reduceEqDiff, Int.reduceToNat, ↓reduceIte]
  refine ⟨⟨by omega, by omega⟩, by first | omega | simp, ⟨by first | omega | simp, ?_⟩⟩
  simp
def isCh (c : ChP) (e : Int) (want : ChP) (bad : Int) : Bool := if bad = 0 then decide (e = 0) && decide (c = want) else decide (e = bad) && decide (c = zeroCh)
theorem chain5_ac (c : ChP) (e : Int) (want : ChP) (bad : Int) (h1 : ChB c) (h2 : ChB want) (H : List AObj) :
    ACall Tryz.prog 22 [encCh c, .int .i64 e, encCh want, .int .i64 bad] H (fun r H' => r = .bool (isCh c e want bad) ∧ H' = H) := by
  have hz : ChB zeroCh := ⟨by simp [zeroCh, zeroT, Term.bulk_mk], by simp [zeroCh], fun x hx => by simp [zeroCh] at hx⟩
  refine ACall_V (H.length) 22 [.tmp 8] Tryz.func22 rfl rfl rfl ?_
  simp only [push_cast, Nat.reduceAdd, Nat.reduceSub, Nat.reduceMul, Nat.reduceLT, Nat.reduceLeDiff, Nat.reduceEqDiff, Int.reduceToNat, ↓reduceIte]
  unfold isCh
  refine cI (fun h => cI (fun he => ?_) (fun he => ?_)) (fun h => cI (fun he => ?_) (fun he => ?_))
  · refine (sameChain_ac c want h1 h2 _).to ?_
    simp only [push_cast, Nat.reduceAdd, Nat.reduceSub, Nat.reduceMul, Nat.reduceLT, Nat.reduceLeDiff, Nat.reduceEqDiff, Int.reduceToNat, ↓reduceIte]
    simp [h, he]
  · simp [h, he]
  · refine ACall.forget (args' := [encCh c, encCh zeroCh]) ⟨Forget.refl _, by rw [zeroCh_enc]; exact fgtW_spec _ _ (by simp only [push_cast, Nat.reduceAdd, Nat.reduceSub, Nat.reduceMul, Nat.reduceLT, Nat.reduceLeDiff, Nat.reduceEqDiff, Int.reduceToNat, ↓reduceIte]), trivial⟩ ((sameChain_ac c zeroCh h1 hz _).to ?_)
    simp only [push_cast, Nat.reduceAdd, Nat.reduceSub, Nat.reduceMul, Nat.reduceLT, Nat.reduceLeDiff, Nat.reduceEqDiff, Int.reduceToNat, ↓reduceIte]
    simp [h, he]
  · simp [h, he]
theorem isCh_self (c : ChP) (want : ChP) (bad : Int) (h : if bad = 0 then c = want else c = zeroCh) : isCh c bad want bad = true := by
  unfold isCh
  by_cases h0 : bad = 0
  · rw [if_pos h0] at h; rw [if_pos h0, decide_eq_true h0, decide_eq_true h]; rfl
  · rw [if_neg h0] at h; rw [if_neg h0, decide_eq_true rfl, decide_eq_true h]; rfl
end Ab
set_option maxRecDepth 10000
namespace Ab
open Go Go.Proofs
abbrev StP := Int × List Int
structure GX (rs : List (Term × Term)) (most : Nat) (t : Term) (g : GrP) : Prop where
  len : g.ts.length ≤ most
  hd : g.ts[0]? = some t
  ck : ∀ x, x ∈ g.ts → checkP x = 0
  ed : ∀ e, e ∈ g.es → 0 ≤ e.to ∧ e.to < g.ts.length ∧ 0 ≤ e.fr ∧ e.fr < g.ts.length ∧ e.st.2.length < 1099511627776
  pa : ∀ a, 0 < a → a < g.ts.length → ∃ e, g.es.find? (fun e => decide (e.to = (a : Int))) = some e ∧ 0 ≤ e.fr ∧ e.fr < a ∧ doE rs (g.ts.getD e.fr.toNat zeroT) e.st = (g.ts.getD a zeroT, 0)
theorem getT_app {ts : List Term} {u : Term} {i : Nat} (h : i < ts.length) : (ts ++ [u]).getD i zeroT = ts.getD i zeroT := by
  rw [List.getD_eq_getElem?_getD, List.getD_eq_getElem?_getD, List.getElem?_append_left h]
theorem find_snoc {es : List Edg} {x e : Edg} {p : Edg → Bool} (h : es.find? p = some e) : (es ++ [x]).find? p = some e := by
  rw [List.find?_append, h]; rfl
theorem GX.step {rs : List (Term × Term)} (hr : sysP rs = 0) {most i : Nat} {t u : Term} {g : GrP} (h : GX rs most t g) (hu : g.ts[i]? = some u) {s : StP} (hs : s ∈ allS rs u) (hd : (doE rs u s).2 = 0) : GX rs most t (exStep most i g s (doE rs u s).1) := by
  obtain ⟨hi, hiu⟩ := List.getElem?_eq_some_iff.1 hu
  have huc : checkP u = 0 := by rw [← hiu]; exact h.ck _ (List.getElem_mem hi)
  have hvc := do_check (s := s) hr huc hd
  have hsl : s.2.length < 1099511627776 := by
    have := step_len hs; have := check_small huc; omega
  obtain ⟨v, hv⟩ : ∃ v, v = (doE rs u s).1 := ⟨_, rfl⟩
  have hdo : doE rs u s = (v, 0) := Prod.ext hv.symm hd
  rw [← hv] at hvc ⊢
  by_cases hm : v ∈ g.ts
  · have hx := List.idxOf_lt_length_of_mem hm
    have e : exStep most i g s v = ⟨g.ts, g.es ++ [⟨i, ((g.ts.idxOf v : Nat) : Int), s⟩], g.wh⟩ := by unfold exStep addTs addR addW; simp [hm]
    rw [e]
    refine ⟨h.len, h.hd, h.ck, fun e he => ?_, fun a h1 h2 => ?_⟩
    · rcases List.mem_append.1 he with he | he
      · exact h.ed e he
      · rw [List.mem_singleton] at he; subst he
        exact ⟨by simp only; omega, by simp only; omega, by simp only; omega, by simp only; omega, hsl⟩
    · obtain ⟨e, q1, q2⟩ := h.pa a h1 h2
      exact ⟨e, find_snoc q1, q2⟩
  · by_cases hmo : most ≤ g.ts.length
    · have e : exStep most i g s v = ⟨g.ts, g.es, false⟩ := by unfold exStep addTs addR addW; simp [hm, hmo]
      rw [e]
      exact ⟨h.len, h.hd, h.ck, h.ed, h.pa⟩
    · have e : exStep most i g s v = ⟨g.ts ++ [v], g.es ++ [⟨i, ((g.ts.length : Nat) : Int), s⟩], g.wh⟩ := by unfold exStep addTs addR addW; simp [hm, hmo]
      rw [e]
      have hl1 : (g.ts ++ [v]).length = g.ts.length + 1 := by simp
      refine ⟨by simp only [hl1]; omega, ?_, fun x hx => ?_, fun e he => ?_, fun a h1 h2 => ?_⟩
      · rw [List.getElem?_append_left (by omega)]; exact h.hd
      · rcases List.mem_append.1 hx with hx | hx
        · exact h.ck x hx
        · rw [List.mem_singleton] at hx; rw [hx]; exact hvc
      · simp only [hl1]
        rcases List.mem_append.1 he with he | he
        · have := h.ed e he
          omega
        · rw [List.mem_singleton] at he; subst he
          exact ⟨by simp only; omega, by simp only; omega, by simp only; omega, by simp only; omega, hsl⟩
      · simp only [hl1] at h2
        by_cases ha : a = g.ts.length
        · subst ha
          refine ⟨⟨i, ((g.ts.length : Nat) : Int), s⟩, ?_, by simp only; omega, by simp only; omega, ?_⟩
          · rw [List.find?_append, List.find?_eq_none.2 (fun e he => by have := h.ed e he; simp; omega)]
            simp
          · have e1 : (g.ts ++ [v]).getD (i : Int).toNat zeroT = u := by
              rw [show (i : Int).toNat = i by omega, getT_app hi, List.getD_eq_getElem?_getD, hu]; rfl
            have e2 : (g.ts ++ [v]).getD g.ts.length zeroT = v := by
              rw [List.getD_eq_getElem?_getD, List.getElem?_append_right (Nat.le_refl _)]; simp
            simp only [e1, e2]
            exact hdo
        · obtain ⟨e, q1, q2, q3, q4⟩ := h.pa a h1 (by omega)
          refine ⟨e, find_snoc q1, q2, q3, ?_⟩
          simp only
          rw [getT_app (by omega), getT_app (by omega)]
          exact q4
theorem GX.row {rs : List (Term × Term)} (hr : sysP rs = 0) {most i : Nat} {t u : Term} : ∀ (l : List StP) (g : GrP), (∀ s, s ∈ l → s ∈ allS rs u) → GX rs most t g → g.ts[i]? = some u → (exRow rs most i u g l).2 = 0 → GX rs most t (exRow rs most i u g l).1 ∧ (exRow rs most i u g l).1.es.length ≤ g.es.length + l.length
  | [], g, _, h, _, _ => ⟨h, by simp [exRow]⟩
  | s :: l, g, hl, h, hu, h0 => by
    rw [exRow] at h0 ⊢
    by_cases hd : (doE rs u s).2 ≠ 0
    · rw [if_pos hd] at h0; exact absurd h0 hd
    · rw [if_neg hd] at h0 ⊢
      have h1 := h.step hr hu (hl s (by simp)) (by simpa using hd)
      have h2 : (exStep most i g s (doE rs u s).1).ts[i]? = some u := addTs_get hu
      obtain ⟨q1, q2⟩ := GX.row hr l _ (fun x hx => hl x (by simp [hx])) h1 h2 h0
      refine ⟨q1, ?_⟩
      have : (exStep most i g s (doE rs u s).1).es.length ≤ g.es.length + 1 := by unfold exStep; split <;> simp
      rw [List.length_cons]
      omega
theorem GX.expl {rs : List (Term × Term)} (hr : sysP rs = 0) {most : Nat} {t : Term} : ∀ (n i : Nat) (g : GrP), GX rs most t g → (expF rs most n i g).2 = 0 → GX rs most t (expF rs most n i g).1 ∧ (expF rs most n i g).1.es.length ≤ g.es.length + n * 256000
  | 0, _, g, h, _ => ⟨h, by simp [expF]⟩
  | n + 1, i, g, h, h0 => by
    rw [expF] at h0 ⊢
    cases hu : g.ts[i]? with
    | none => exact ⟨h, by simp⟩
    | some u =>
      rw [hu] at h0
      simp only at h0 ⊢
      obtain ⟨hi, hiu⟩ := List.getElem?_eq_some_iff.1 hu
      have huc : checkP u = 0 := by rw [← hiu]; exact h.ck _ (List.getElem_mem hi)
      have hal := allS_len hr huc
      by_cases hd : (exRow rs most i u g (allS rs u)).2 ≠ 0
      · rw [if_pos hd] at h0; exact absurd h0 hd
      · rw [if_neg hd] at h0 ⊢
        obtain ⟨q1, q2⟩ := GX.row hr (allS rs u) g (fun _ h => h) h hu (by simpa using hd)
        obtain ⟨p1, p2⟩ := GX.expl hr n (i + 1) _ q1 h0
        exact ⟨p1, by omega⟩
theorem explore_spec {rs : List (Term × Term)} (hr : sysP rs = 0) {t : Term} (ht : checkP t = 0) {most : Nat} (hm : 1 ≤ most) (hm2 : most ≤ 4096) (h : (exploreF rs t most).2 = 0) : GX rs most t (exploreF rs t most).1 ∧ (exploreF rs t most).1.es.length < 1099511627776 := by
  have h0 : GX rs most t ⟨[t], [], true⟩ := ⟨by simpa using hm, rfl, by intro x hx; simp at hx; rw [hx]; exact ht, by intro e he; simp at he, by intro a h1 h2; simp at h2; omega⟩
  obtain ⟨q1, q2⟩ := GX.expl hr most 0 ⟨[t], [], true⟩ h0 h
  refine ⟨q1, ?_⟩
  unfold exploreF
  simp only [List.length_nil] at q2
  omega
def backF (es : List Edg) : Nat → Nat → List StP
  | 0, _ => []
  | n + 1, a => if a = 0 then [] else match es.find? (fun e => decide (e.to = (a : Int))) with
    | none => []
    | some e => e.st :: backF es n e.fr.toNat
theorem backF_spec {rs : List (Term × Term)} {most : Nat} {t : Term} {g : GrP} (h : GX rs most t g) : ∀ (n a : Nat), a < g.ts.length → a ≤ n → (backF g.es n a).length ≤ a ∧ (∀ x, x ∈ backF g.es n a → x.2.length < 1099511627776) ∧ ∃ q, runF rs ([] ++ [t]) t (backF g.es n a).reverse = (q ++ [g.ts.getD a zeroT], 0)
  | n, 0, _, _ => by
    have e : backF g.es n 0 = [] := by cases n <;> rfl
    rw [e]
    refine ⟨Nat.le_refl _, by simp, [], ?_⟩
    rw [List.getD_eq_getElem?_getD, h.hd]; rfl
  | 0, a + 1, _, h2 => absurd h2 (by omega)
  | n + 1, a + 1, h1, h2 => by
    obtain ⟨e, q1, q2, q3, q4⟩ := h.pa (a + 1) (by omega) h1
    have he : backF g.es (n + 1) (a + 1) = e.st :: backF g.es n e.fr.toNat := by
      rw [backF, if_neg (by omega), q1]
    obtain ⟨p1, p2, q, p3⟩ := backF_spec h n e.fr.toNat (by omega) (by omega)
    rw [he]
    refine ⟨by rw [List.length_cons]; omega, ?_, ?_⟩
    · intro x hx
      rcases List.mem_cons.1 hx with rfl | hx
      · exact (h.ed e (List.mem_of_find?_eq_some q1)).2.2.2.2
      · exact p2 x hx
    · rw [List.reverse_cons, run_append [e.st] _ [] t q _ p3, runF, q4]
      simp only [ne_eq, not_true_eq_false, if_false, runF]
      exact ⟨_, rfl⟩
theorem backF_more {rs : List (Term × Term)} {most : Nat} {t : Term} {g : GrP} (h : GX rs most t g) : ∀ (n m a : Nat), a < g.ts.length → a ≤ n → a ≤ m → backF g.es n a = backF g.es m a
  | n, m, 0, _, _, _ => by cases n <;> cases m <;> rfl
  | 0, _, a + 1, _, h2, _ => absurd h2 (by omega)
  | _, 0, a + 1, _, _, h2 => absurd h2 (by omega)
  | n + 1, m + 1, a + 1, h1, h2, h3 => by
    obtain ⟨e, q1, q2, q3, q4⟩ := h.pa (a + 1) (by omega) h1
    rw [backF, backF, if_neg (by omega), if_neg (by omega), q1]
    simp only
    rw [backF_more h n m e.fr.toNat (by omega) (by omega) (by omega)]
end Ab
set_option maxRecDepth 100000
namespace Ab
open Go Go.Proofs
theorem find_at {es : List Edg} {p : Edg → Bool} {e : Edg} (h : es.find? p = some e) : ∃ i, ∃ hi : i < es.length, es[i]'hi = e ∧ fstI p es = (i : Int) ∧ p e = true ∧ ∀ x, x ∈ es.take i → p x = false := by
  obtain ⟨h1, i, hi, h2, h3⟩ := List.find?_eq_some_iff_getElem.1 h
  have h4 : ∀ x, x ∈ es.take i → p x = false := fun x hx => by
    obtain ⟨j, hj, rfl⟩ := List.mem_take_iff_getElem.1 hx
    have := h3 j (by omega)
    simpa using this
  exact ⟨i, hi, h2, fstI_at hi (by rw [h2]; exact h1) h4, h1, h4⟩
theorem backF_step {rs : List (Term × Term)} {most : Nat} {t : Term} {g : GrP} (h : GX rs most t g) {a : Nat} (h1 : 0 < a) (h2 : a < g.ts.length) {e : Edg} (he : g.es.find? (fun e => decide (e.to = (a : Int))) = some e) (hf : 0 ≤ e.fr ∧ e.fr < a) : backF g.es g.ts.length a = e.st :: backF g.es g.ts.length e.fr.toNat := by
  obtain ⟨n, hn⟩ : ∃ n, g.ts.length = n + 1 := ⟨g.ts.length - 1, by omega⟩
  rw [hn, backF, if_neg (by omega), he]
  simp only
  rw [backF_more h n (n + 1) e.fr.toNat (by omega) (by omega) (by omega)]
@[reducible] def boxG (g : GrP) : AObj := .cells [.sl .none (encTs g.ts), .sl .none (encL encE g.es), .bool g.wh]
@[reducible] def boxE (e : Edg) : AObj := .cells [.int .i64 e.fr, .int .i64 e.to, .int .i64 e.st.1, .sl .none (encP e.st.2)]
def pathL (g : GrP) : Nat → Nat → List AObj
  | 0, _ => []
  | n + 1, a => if a = 0 then [] else match g.es.find? (fun e => decide (e.to = (a : Int))) with
    | none => []
    | some e => boxG g :: boxE e :: pathL g n e.fr.toNat
theorem boxG_sc (m : Nat) (g : GrP) : OScoped m (boxG g) := ⟨scoped_encTs _ g.ts, of_eq_true (scopedE _ g.es), trivial, trivial⟩
theorem boxE_sc (m : Nat) (e : Edg) : OScoped m (boxE e) := ⟨trivial, trivial, trivial, by simp [Scoped, scoped_encP], trivial⟩
theorem pathL_sc (m : Nat) (g : GrP) : ∀ (n a : Nat) (o : AObj), o ∈ pathL g n a → OScoped m o
  | 0, _, _, h => by simp [pathL] at h
  | n + 1, a, o, h => by
    rw [pathL] at h
    by_cases ha : a = 0
    · rw [if_pos ha] at h; simp at h
    · rw [if_neg ha] at h
      cases he : g.es.find? (fun e => decide (e.to = (a : Int))) with
      | none => rw [he] at h; simp at h
      | some e =>
        rw [he] at h
        simp only at h
        rcases List.mem_cons.1 h with rfl | h
        · exact boxG_sc _ _
        rcases List.mem_cons.1 h with rfl | h
        · exact boxE_sc _ _
        exact pathL_sc m g n _ o h
theorem lg_get (H : List AObj) (a b x : AObj) (L : List AObj) : (H ++ a :: b :: (L ++ [x]))[H.length + (L.length + 2)]? = some x := by
  rw [List.getElem?_append_right (by omega), show H.length + (L.length + 2) - H.length = L.length + 1 + 1 by omega, List.getElem?_cons_succ, List.getElem?_cons_succ, List.getElem?_append_right (Nat.le_refl _), Nat.sub_self]
  rfl
theorem lg_set (H : List AObj) (a b x y : AObj) (L : List AObj) : (H ++ a :: b :: (L ++ [x])).set (H.length + (L.length + 2)) y = H ++ a :: b :: (L ++ [y]) := by
  rw [List.set_append_right _ _ (by omega), show H.length + (L.length + 2) - H.length = L.length + 1 + 1 by omega, List.set_cons_succ, List.set_cons_succ, List.set_append_right _ _ (Nat.le_refl _), Nat.sub_self]
  rfl
set_option maxHeartbeats 2000000 in
theorem pathR_ac {rs : List (Term × Term)} {most : Nat} {t : Term} {g : GrP} (h : GX rs most t g) (hm : most ≤ 4096) (hel : g.es.length < 1099511627776) : ∀ (n a : Nat), a < g.ts.length → a ≤ n → ∀ (H : List AObj),
    ACall Tryz.prog 36 [encG g, .int .i64 (a : Nat)] H (fun r H' => r = gSl (H.length + (pathL g n a).length) (encL encSt (backF g.es n a).reverse) ∧ H' = H ++ (pathL g n a ++ [gTok 86 2 (encL encSt (backF g.es n a).reverse)])) := by
  intro n
  induction n with
  | zero =>
    intro a h1 h2 H
    obtain rfl : a = 0 := by omega
    show ACall _ _ _ _ (fun r H' => r = gSl (H.length + 0) (encL encSt []) ∧ H' = H ++ [gTok 86 2 (encL encSt [])])
    refine ACall_VA (H.length + 1) 27 [.tmp 4] Tryz.func36 rfl rfl rfl ?_
    refine AW_reserve 1 ?_
    refine AW_of_W ?_
    simp only [push_cast, Nat.reduceAdd, Nat.reduceSub, Nat.reduceMul, Nat.reduceLT, Nat.reduceLeDiff, Nat.reduceEqDiff, Int.reduceToNat, ↓reduceIte, encL_nil]
    trace_state
  | succ n ih =>
    intro a h1 h2 H
    by_cases ha : a = 0
    · subst ha
      show ACall _ _ _ _ (fun r H' => r = gSl (H.length + 0) (encL encSt []) ∧ H' = H ++ [gTok 86 2 (encL encSt [])])
      refine ACall_VA (H.length + 1) 27 [.tmp 4] Tryz.func36 rfl rfl rfl ?_
      refine AW_reserve 1 ?_
      refine AW_of_W ?_
      simp only [push_cast, Nat.reduceAdd, Nat.reduceSub, Nat.reduceMul, Nat.reduceLT, Nat.reduceLeDiff, Nat.reduceEqDiff, Int.reduceToNat, ↓reduceIte, encL_nil]
    · obtain ⟨e, q1, q2, q3, q4⟩ := h.pa a (by omega) h1
      obtain ⟨i0, hi0, e1, e2, e3, e4⟩ := find_at q1
      obtain ⟨p1, p2, _⟩ := backF_spec h n e.fr.toNat (by omega) (by omega)
      have hB : backF g.es (n + 1) a = e.st :: backF g.es n e.fr.toNat := by rw [backF, if_neg ha, q1]
      have hL : pathL g (n + 1) a = boxG g :: boxE e :: pathL g n e.fr.toNat := by rw [pathL, if_neg ha, q1]
      have hih := fun X => ih e.fr.toNat (by omega) (by omega) X
      rw [show ((e.fr.toNat : Nat) : Int) = e.fr by omega] at hih
      obtain ⟨B, hBB⟩ : ∃ B, B = (backF g.es n e.fr.toNat).reverse := ⟨_, rfl⟩
      obtain ⟨L, hLL⟩ : ∃ L, L = pathL g n e.fr.toNat := ⟨_, rfl⟩
      rw [hB, hL, List.reverse_cons]
      rw [← hBB, ← hLL] at hih ⊢
      have hih2 : ∀ X, ACall Tryz.prog 36 [encG g, .int .i64 e.fr] (X ++ [boxG g, boxE e]) (fun r H' => r = gSl (X.length + (L.length + 2)) (encL encSt B) ∧ H' = X ++ boxG g :: boxE e :: (L ++ [gTok 86 2 (encL encSt B)])) := fun X => by
        have := hih (X ++ [boxG g, boxE e])
        rw [List.append_assoc, List.length_append, show X.length + [boxG g, boxE e].length + L.length = X.length + (L.length + 2) by simp; omega] at this
        exact this
      have hget := lg_get H (boxG g) (boxE e) (gTok 86 2 (encL encSt B)) L
      have hset := lg_set H (boxG g) (boxE e) (gTok 86 2 (encL encSt B)) (gTok 86 2 (encL encSt (B ++ [e.st]))) L
      have hBl : B.length < 1099511627776 := by rw [hBB, List.length_reverse]; have := h.len; omega
      refine ACall_VA (H.length + (L.length + 3)) 27 [.tmp 4] Tryz.func36 rfl rfl rfl ?_
      refine AW_of_W ?_
      simp only [push_cast, Nat.reduceAdd, Nat.reduceSub, Nat.reduceMul, Nat.reduceLT, Nat.reduceLeDiff, Nat.reduceEqDiff, Int.reduceToNat, ↓reduceIte]
      refine cI (fun h => absurd h (by omega)) (fun _ => ?_)
      refine AW_loopW (maskG 29 [1, 0, 7, 0, 0]) (fun (i : Nat) => [(12, .int .i64 i)]) (fun _ => H ++ [boxG g]) (fun i => i ≤ i0) (fun i => i0 - i) 0 (Nat.zero_le _) (by simp only [push_cast, Nat.reduceAdd, Nat.reduceSub, Nat.reduceMul, Nat.reduceLT, Nat.reduceLeDiff, Nat.reduceEqDiff, Int.reduceToNat, ↓reduceIte]) (fun i hi => ?_)
      simp only [push_cast, Nat.reduceAdd, Nat.reduceSub, Nat.reduceMul, Nat.reduceLT, Nat.reduceLeDiff, Nat.reduceEqDiff, Int.reduceToNat, ↓reduceIte]
      refine cI (fun h3 => ?_) (fun h3 => absurd h3 (by omega))
      have hil : i < g.es.length := by omega
      refine ⟨hil, ?_⟩
      refine cI (fun h4 => ?_) (fun h4 => ?_)
      · have hii : i = i0 := by
          rcases Nat.lt_or_eq_of_le hi with hlt | heq
          · have := e4 (g.es[i]'hil) (List.mem_take_iff_getElem.2 ⟨i, by omega, rfl⟩)
            exact absurd h4 (by simpa using this)
          · exact heq
        subst hii
        rw [e1]
        apply AW_drawE [some 20, some 21, some 22, some 23, some 24, some 25, some 26, some 27, some 4] [([false, false], _), ([true, false], _), ([true, true], _)] [none, none, none, some 0, none, none, none, some 1, none] 2 [(0, [false, false], [2]), (1, [false, false], [6]), (2, [false, false], [21]), (3, [false, false], [20, 1]), (4, [true, false], [6]), (5, [true, false], [24]), (6, [true, false], [25]), (7, [true, false], [23, 2]), (8, [true, true], [27]), (1, [true, false], [6]), (1, [true, true], [6]), (4, [false, false], [6]), (4, [true, true], [6]), (5, [false, false], [24]), (5, [true, true], [24]), (6, [false, false], [25])] [_, _, _, _, _, _, _, _, _]
        case' hm => exact dr
        case' hn => rfl
        case' hok => rfl
        case' hlen => rfl
        case' hd => rfl
        case' h0 => rfl
        case' hstep =>
         simp only [DAllG, push_cast, Option.isSome_some, Option.isSome_none]
         repeat' apply And.intro
         all_goals (apply DOne_V; simp only [push_cast, Nat.reduceAdd, Nat.reduceSub, Nat.reduceMul, Nat.reduceLT, Nat.reduceLeDiff, Nat.reduceEqDiff, Int.reduceToNat, ↓reduceIte] <;> first | exact rfl | omega | exact ⟨rfl, rfl⟩ | exact trivial | exact ⟨by omega, rfl⟩ | exact ⟨by omega, by omega, rfl⟩ | exact ⟨by omega, rfl, rfl⟩ | exact ⟨by omega, by omega, rfl, rfl⟩ | (refine (hih2 _).to ?_; exact ⟨rfl, rfl⟩) | (refine app1_L encSt (sz := 2) (fun _ => rfl) cellSt5 _ (H.length + (L.length + 2)) B e.st _ rfl rfl hget sl26 sz86 by86 zr86 rfl (by decide) (by decide) (by omega) ?_; exact ⟨rfl, rfl⟩) | trace_state)
        case' hQ => skip
        simp only [push_cast, Nat.reduceAdd, Nat.reduceSub, Nat.reduceMul, Nat.reduceLT, Nat.reduceLeDiff, Nat.reduceEqDiff, Int.reduceToNat, ↓reduceIte, hset]
        refine outok_app (L := boxG g :: boxE e :: (L ++ [gTok 86 2 (encL encSt (B ++ [e.st]))])) (L.length + 3) rfl (by simp) (fun o ho => ?_)
        have ho := List.mem_of_mem_take ho
        rcases List.mem_cons.1 ho with rfl | ho
        · exact boxG_sc _ _
        rcases List.mem_cons.1 ho with rfl | ho
        · exact boxE_sc _ _
        rcases List.mem_append.1 ho with ho | ho
        · rw [hLL] at ho; exact pathL_sc _ g n _ o ho
        · rw [List.mem_singleton] at ho; subst ho; exact oscoped_gTok _ _ _ _
      · repeat' first | refine ⟨by omega, ?_⟩ | refine cI (fun _ => ?_) (fun _ => ?_)
        have hlt : i < i0 := by
          rcases Nat.lt_or_eq_of_le hi with hlt | heq
          · exact hlt
          · subst heq
            rw [e1] at h4
            exact absurd (of_decide_eq_true e3) h4
        exact loopW_n (i + 1) hlt (by omega) (by simp only [push_cast, Nat.reduceAdd, Nat.reduceSub, Nat.reduceMul, Nat.reduceLT, Nat.reduceLeDiff, Nat.reduceEqDiff, Int.reduceToNat, ↓reduceIte])
end Ab
set_option maxRecDepth 100000
namespace Ab
open Go Go.Proofs
set_option maxHeartbeats 2000000 in
theorem pathR2_ac {rs : List (Term × Term)} {most : Nat} {t : Term} {g : GrP} (h : GX rs most t g) (hm : most ≤ 4096) (hel : g.es.length < 1099511627776) (a : Nat) (h1 : a < g.ts.length) (H : List AObj) :
    ACall Tryz.prog 36 [encG g, .int .i64 (a : Nat)] H (fun r H' => r = .sl .none (encL encSt (backF g.es g.ts.length a).reverse) ∧ H' = H) := by
  by_cases ha : a = 0
  · subst ha
    have e : backF g.es g.ts.length 0 = [] := by cases g.ts.length <;> rfl
    rw [e]
    refine ACall_V (H.length) 27 [.tmp 4] Tryz.func36 rfl rfl rfl ?_
    simp only [push_cast, Nat.reduceAdd, Nat.reduceSub, Nat.reduceMul, Nat.reduceLT, Nat.reduceLeDiff, Nat.reduceEqDiff, Int.reduceToNat, ↓reduceIte, List.reverse_nil, encL_nil]
  · obtain ⟨e, q1, q2, q3, q4⟩ := h.pa a (by omega) h1
    obtain ⟨i0, hi0, e1, e2, e3, e4⟩ := find_at q1
    obtain ⟨n, hn⟩ : ∃ n, n = g.ts.length := ⟨_, rfl⟩
    obtain ⟨p1, p2, _⟩ := backF_spec h n e.fr.toNat (by omega) (by omega)
    have hB := backF_step h (by omega) h1 q1 ⟨q2, q3⟩
    have hih := fun X => pathR_ac h hm hel n e.fr.toNat (by omega) (by omega) X
    rw [show ((e.fr.toNat : Nat) : Int) = e.fr by omega] at hih
    rw [← hn] at hB ⊢
    obtain ⟨B, hBB⟩ : ∃ B, B = (backF g.es n e.fr.toNat).reverse := ⟨_, rfl⟩
    obtain ⟨L, hLL⟩ : ∃ L, L = pathL g n e.fr.toNat := ⟨_, rfl⟩
    rw [hB, List.reverse_cons]
    rw [← hBB, ← hLL] at hih
    rw [← hBB]
    have hih2 : ∀ X, ACall Tryz.prog 36 [encG g, .int .i64 e.fr] (X ++ [boxG g, boxE e]) (fun r H' => r = gSl (X.length + (L.length + 2)) (encL encSt B) ∧ H' = X ++ boxG g :: boxE e :: (L ++ [gTok 86 2 (encL encSt B)])) := fun X => by
      have := hih (X ++ [boxG g, boxE e])
      rw [List.append_assoc, List.length_append, show X.length + [boxG g, boxE e].length + L.length = X.length + (L.length + 2) by simp; omega] at this
      exact this
    have hget := lg_get H (boxG g) (boxE e) (gTok 86 2 (encL encSt B)) L
    have hset := lg_set H (boxG g) (boxE e) (gTok 86 2 (encL encSt B)) (gTok 86 2 (encL encSt (B ++ [e.st]))) L
    have hBl : B.length < 1099511627776 := by rw [hBB, List.length_reverse]; have := h.len; omega
    refine ACall_VA (H.length) 27 [.tmp 4] Tryz.func36 rfl rfl rfl ?_
    refine AW_of_W ?_
    simp only [push_cast, Nat.reduceAdd, Nat.reduceSub, Nat.reduceMul, Nat.reduceLT, Nat.reduceLeDiff, Nat.reduceEqDiff, Int.reduceToNat, ↓reduceIte]
    refine cI (fun h => absurd h (by omega)) (fun _ => ?_)
    refine AW_loopW (maskG 29 [1, 0, 7, 0, 0]) (fun (i : Nat) => [(12, .int .i64 i)]) (fun _ => H ++ [boxG g]) (fun i => i ≤ i0) (fun i => i0 - i) 0 (Nat.zero_le _) (by simp only [push_cast, Nat.reduceAdd, Nat.reduceSub, Nat.reduceMul, Nat.reduceLT, Nat.reduceLeDiff, Nat.reduceEqDiff, Int.reduceToNat, ↓reduceIte]) (fun i hi => ?_)
    simp only [push_cast, Nat.reduceAdd, Nat.reduceSub, Nat.reduceMul, Nat.reduceLT, Nat.reduceLeDiff, Nat.reduceEqDiff, Int.reduceToNat, ↓reduceIte]
    refine cI (fun h3 => ?_) (fun h3 => absurd h3 (by omega))
    have hil : i < g.es.length := by omega
    refine ⟨hil, ?_⟩
    refine cI (fun h4 => ?_) (fun h4 => ?_)
    · have hii : i = i0 := by
        rcases Nat.lt_or_eq_of_le hi with hlt | heq
        · have := e4 (g.es[i]'hil) (List.mem_take_iff_getElem.2 ⟨i, by omega, rfl⟩)
          exact absurd h4 (by simpa using this)
        · exact heq
      subst hii
      rw [e1]
      apply AW_drawE [some 20, some 21, some 22, some 23, some 24, some 25, some 26, some 27, some 4] [([false, false], _), ([true, false], _), ([true, true], _)] [none, none, none, some 0, none, none, none, some 1, none] 2 [(0, [false, false], [2]), (1, [false, false], [6]), (2, [false, false], [21]), (3, [false, false], [20, 1]), (4, [true, false], [6]), (5, [true, false], [24]), (6, [true, false], [25]), (7, [true, false], [23, 2]), (8, [true, true], [27]), (1, [true, false], [6]), (1, [true, true], [6]), (4, [false, false], [6]), (4, [true, true], [6]), (5, [false, false], [24]), (5, [true, true], [24]), (6, [false, false], [25])] [_, _, _, _, _, _, _, _, _]
      case' hm => exact dr
      case' hn => rfl
      case' hok => rfl
      case' hlen => rfl
      case' hd => rfl
      case' h0 => rfl
      case' hstep =>
       simp only [DAllG, push_cast, Option.isSome_some, Option.isSome_none]
       repeat' apply And.intro
       all_goals (apply DOne_V; simp only [push_cast, Nat.reduceAdd, Nat.reduceSub, Nat.reduceMul, Nat.reduceLT, Nat.reduceLeDiff, Nat.reduceEqDiff, Int.reduceToNat, ↓reduceIte] <;> first | exact rfl | omega | exact ⟨rfl, rfl⟩ | exact trivial | exact ⟨by omega, rfl⟩ | exact ⟨by omega, by omega, rfl⟩ | exact ⟨by omega, rfl, rfl⟩ | exact ⟨by omega, by omega, rfl, rfl⟩ | (refine (hih2 _).to ?_; exact ⟨rfl, rfl⟩) | (refine app1_L encSt (sz := 2) (fun _ => rfl) cellSt5 _ (H.length + (L.length + 2)) B e.st _ rfl rfl hget sl26 sz86 by86 zr86 rfl (by decide) (by decide) (by omega) ?_; exact ⟨rfl, rfl⟩) | trace_state)
      case' hQ => skip
      simp only [push_cast, Nat.reduceAdd, Nat.reduceSub, Nat.reduceMul, Nat.reduceLT, Nat.reduceLeDiff, Nat.reduceEqDiff, Int.reduceToNat, ↓reduceIte, hset]
      trace_state
    · repeat' first | refine ⟨by omega, ?_⟩ | refine cI (fun _ => ?_) (fun _ => ?_)
      have hlt : i < i0 := by
        rcases Nat.lt_or_eq_of_le hi with hlt | heq
        · exact hlt
        · subst heq
          rw [e1] at h4
          exact absurd (of_decide_eq_true e3) h4
      exact loopW_n (i + 1) hlt (by omega) (by simp only [push_cast, Nat.reduceAdd, Nat.reduceSub, Nat.reduceMul, Nat.reduceLT, Nat.reduceLeDiff, Nat.reduceEqDiff, Int.reduceToNat, ↓reduceIte])
def pathE (rs : List (Term × Term)) (s u : Term) (most : Int) : (ChP × Bool) × Int :=
  if bothP rs s ≠ 0 then ((zeroCh, false), bothP rs s) else if checkP u ≠ 0 then ((zeroCh, false), checkP u) else if most < 1 ∨ 4096 < most then ((zeroCh, false), 2) else
  if (exploreF rs s most.toNat).2 ≠ 0 then ((zeroCh, false), (exploreF rs s most.toNat).2) else
  if findI (exploreF rs s most.toNat).1.ts u < 0 then ((zeroCh, false), 0) else
  (((s, (backF (exploreF rs s most.toNat).1.es (exploreF rs s most.toNat).1.ts.length (findI (exploreF rs s most.toNat).1.ts u).toNat).reverse), true), 0)
@[reducible] def encPE (q : (ChP × Bool) × Int) : AV := .tup [encCh q.1.1, .bool q.1.2, .int .i64 q.2]
theorem fstI_find (ts : List Term) (u : Term) : fstI (fun x => decide (x = u)) ts = findI ts u := by
  unfold fstI
  cases h : ts.findIdx? (fun x => decide (x = u)) with
  | none =>
    have := List.findIdx?_eq_none_iff.1 h
    have hn : u ∉ ts := fun hm => by have := this u hm; simp at this
    simp only
    unfold findI
    rw [if_neg hn]
  | some i =>
    obtain ⟨h1, h2, h3⟩ := List.findIdx?_eq_some_iff_getElem.1 h
    simp only
    rw [idx_at h1 (by simpa using h2) (fun x hx => ?_)]
    obtain ⟨j, hj, rfl⟩ := List.mem_take_iff_getElem.1 hx
    have := h3 j (by omega)
    simpa using this
theorem findI_at {ts : List Term} {u : Term} (h : ¬ findI ts u < 0) : ∃ a, findI ts u = ((a : Nat) : Int) ∧ a < ts.length ∧ ts.getD a zeroT = u := by
  unfold findI at h ⊢
  by_cases hm : u ∈ ts
  · rw [if_pos hm]
    have hl := List.idxOf_lt_length_of_mem hm
    refine ⟨_, rfl, hl, ?_⟩
    rw [List.getD_eq_getElem?_getD, List.getElem?_eq_getElem hl]
    simp
  · rw [if_neg hm] at h; exact absurd (by decide) h
theorem ok_path (H : List AObj) (s u : Term) (g : GrP) (a : Int) (acc : List StP) : OutOk H (H ++ [grO 86 2 (encL encSt acc), .cells [.str s.name, .bool s.var, .sl .none (encTs s.args)], .cells [.str u.name, .bool u.var, .sl .none (encTs u.args)], .cells [.str [], .bool false, .sl .zero [], .sl .zero []], boxG g, .cells [.int .i64 a], .cells [.str s.name, .bool s.var, .sl .none (encTs s.args), grS H.length (encL encSt acc)]]) (H.length + 7) := by
  refine outok_app 7 rfl (by simp) (fun o ho => ?_)
  have ho := List.mem_of_mem_take ho
  simp only [List.mem_cons, List.not_mem_nil, or_false] at ho
  rcases ho with rfl | rfl | rfl | rfl | rfl | rfl | rfl
  · exact osc_grSt _ _ _
  · exact ⟨trivial, trivial, scoped_encTs _ s.args, trivial⟩
  · exact ⟨trivial, trivial, scoped_encTs _ u.args, trivial⟩
  · exact ⟨trivial, trivial, trivial, trivial, trivial⟩
  · exact boxG_sc _ _
  · exact ⟨trivial, trivial⟩
  · exact ⟨trivial, trivial, scoped_encTs _ s.args, of_eq_true (sc_grS _ _ _ (by omega)), trivial⟩
set_option maxHeartbeats 8000000 in
theorem dpath_ac (rs : List (Term × Term)) (hlen : rs.length < 1099511627776) (hb : BndR rs) (s u : Term) (hs : s.bulk ≤ 1099511627775) (hu : u.bulk ≤ 1099511627775) (most : Int) (H : List AObj) :
    ACall Tryz.prog 32 [.sl .none (encL encRu rs), encT s, encT u, .int .i64 most] H (fun r H' => r = encPE (pathE rs s u most) ∧ H' = H) := by
  have hex := fun X => exploreX_ac rs hlen hb s hs most X
  obtain ⟨R, hR⟩ : ∃ R, R = pathE rs s u most := ⟨_, rfl⟩
  rw [← hR]
  unfold pathE at hR
  refine ACall_VJA (H.length) 75 [.cell 8 28, .tmp 9, .tmp 10] Tryz.func32 rfl rfl rfl ?_
  refine AW_reserve 1 ?_
  refine AW_of_W ?_
  simp only [push_cast, Nat.reduceAdd, Nat.reduceSub, Nat.reduceMul, Nat.reduceLT, Nat.reduceLeDiff, Nat.reduceEqDiff, Int.reduceToNat, ↓reduceIte]
  refine (both_ac rs hlen hb s hs _).to ?_
  simp only [push_cast, Nat.reduceAdd, Nat.reduceSub, Nat.reduceMul, Nat.reduceLT, Nat.reduceLeDiff, Nat.reduceEqDiff, Int.reduceToNat, ↓reduceIte]
  refine cI (fun h => ?_) (fun h => ?_)
  · rw [if_neg (by simpa using h)] at hR
    refine (check_ac u hu _).to ?_
    simp only [push_cast, Nat.reduceAdd, Nat.reduceSub, Nat.reduceMul, Nat.reduceLT, Nat.reduceLeDiff, Nat.reduceEqDiff, Int.reduceToNat, ↓reduceIte]
    refine cI (fun h2 => ?_) (fun h2 => ?_)
    · rw [if_neg (by simpa using h2)] at hR
      obtain ⟨z1, z2⟩ := both_ok h
      unfold exploreE at hex
      rw [if_neg (by simpa using h)] at hex
      by_cases hm : most < 1 ∨ 4096 < most
      · rw [if_pos hm] at hR hex
        refine (hex _).to ?_
        simp only [push_cast, Nat.reduceAdd, Nat.reduceSub, Nat.reduceMul, Nat.reduceLT, Nat.reduceLeDiff, Nat.reduceEqDiff, Int.reduceToNat, ↓reduceIte, encGE]
        refine cI (fun h => absurd h (by decide)) (fun _ => ?_)
        rw [hR]
        exact ToJ.fgt (by simp only [push_cast, Nat.reduceAdd, Nat.reduceSub, Nat.reduceMul, Nat.reduceLT, Nat.reduceLeDiff, Nat.reduceEqDiff, Int.reduceToNat, ↓reduceIte, zeroCh_enc])
      · rw [if_neg hm] at hR hex
        obtain ⟨m, hmm⟩ : ∃ m, m = most.toNat := ⟨_, rfl⟩
        rw [← hmm] at hR hex
        obtain ⟨G, hG⟩ : ∃ G, G = exploreF rs s m := ⟨_, rfl⟩
        have hsp := fun hh => explore_spec (most := m) z1 z2 (by omega) (by omega) hh
        rw [← hG] at hR hex hsp
        refine (hex _).to ?_
        simp only [push_cast, Nat.reduceAdd, Nat.reduceSub, Nat.reduceMul, Nat.reduceLT, Nat.reduceLeDiff, Nat.reduceEqDiff, Int.reduceToNat, ↓reduceIte, encGE]
        refine cI (fun h3 => ?_) (fun h3 => ?_)
        · rw [if_neg (by simpa using h3)] at hR
          obtain ⟨hX, hel⟩ := hsp h3
          obtain ⟨g, hg⟩ : ∃ g, g = G.1 := ⟨_, rfl⟩
          rw [← hg] at hR hX hel ⊢
          have htl := hX.len
          have hbk : ∀ x, x ∈ g.ts → x.bulk ≤ 1099511627775 := fun x hx => by have := check_small (hX.ck x hx); omega
          refine (fstT_ac g.ts 77 [.ptr (H.length + 2) 0] (fun x => decide (x = u)) _ (by omega) ok77 (by simp only [push_cast, Nat.reduceAdd, Nat.reduceSub, Nat.reduceMul, Nat.reduceLT, Nat.reduceLeDiff, Nat.reduceEqDiff, Int.reduceToNat, ↓reduceIte]) (fun i h => path1_ac _ u _ (hbk _ (List.getElem_mem h)) hu _ (by exact (agetN _ _ 2).trans rfl))).to ?_
          rw [fstI_find]
          simp only [push_cast, Nat.reduceAdd, Nat.reduceSub, Nat.reduceMul, Nat.reduceLT, Nat.reduceLeDiff, Nat.reduceEqDiff, Int.reduceToNat, ↓reduceIte]
          refine cI (fun h4 => ?_) (fun h4 => ?_)
          · rw [if_pos h4] at hR
            rw [hR]
            exact ToJ.fgt (by simp only [push_cast, Nat.reduceAdd, Nat.reduceSub, Nat.reduceMul, Nat.reduceLT, Nat.reduceLeDiff, Nat.reduceEqDiff, Int.reduceToNat, ↓reduceIte, zeroCh_enc])
          · rw [if_neg h4] at hR
            obtain ⟨a0, a1, a2, a3⟩ := findI_at h4
            rw [a1, show ((a0 : Nat) : Int).toNat = a0 by omega] at hR
            rw [a1]
            refine (own_ac s hs _).to ?_
            simp only [push_cast, Nat.reduceAdd, Nat.reduceSub, Nat.reduceMul, Nat.reduceLT, Nat.reduceLeDiff, Nat.reduceEqDiff, Int.reduceToNat, ↓reduceIte]
            obtain ⟨hp1, hp2, _⟩ := backF_spec hX g.ts.length a0 a2 (by omega)
            refine AW_loopW (maskG 79 [8, 4, 1, 0]) (fun (q : Nat × List StP) => []) (fun q => H ++ [grO 86 2 (encL encSt q.2), .cells [.str s.name, .bool s.var, .sl .none (encTs s.args)], .cells [.str u.name, .bool u.var, .sl .none (encTs u.args)], .cells [.str [], .bool false, .sl .zero [], .sl .zero []], .cells [.sl .none (encTs g.ts), .sl .none (encL encE g.es), .bool g.wh], .cells [.int .i64 (q.1 : Nat)], .cells [.str s.name, .bool s.var, .sl .none (encTs s.args), grS H.length (encL encSt q.2)]]) (fun q => q.1 < g.ts.length ∧ q.2 ++ backF g.es g.ts.length q.1 = backF g.es g.ts.length a0) (fun q => q.1) (a0, []) ⟨a2, rfl⟩ (by simp only [push_cast, Nat.reduceAdd, Nat.reduceSub, Nat.reduceMul, Nat.reduceLT, Nat.reduceLeDiff, Nat.reduceEqDiff, Int.reduceToNat, ↓reduceIte, encL_nil, grO_nil, grS_nil]) (fun q hq => ?_)
            obtain ⟨a, acc⟩ := q
            obtain ⟨q1, q2⟩ := hq
            simp only at q1 q2
            have hacl : acc.length ≤ a0 := by
              have := congrArg List.length q2
              rw [List.length_append] at this
              omega
            simp only [push_cast, Nat.reduceAdd, Nat.reduceSub, Nat.reduceMul, Nat.reduceLT, Nat.reduceLeDiff, Nat.reduceEqDiff, Int.reduceToNat, ↓reduceIte]
            refine cI (fun h5 => ?_) (fun h5 => ?_)
            · obtain ⟨e, w1, w2, w3, w4⟩ := hX.pa a (by omega) q1
              obtain ⟨i0, hi0, e1, e2, e3, e4⟩ := find_at w1
              rw [backF_step hX (by omega) q1 w1 ⟨w2, w3⟩] at q2
              refine (fstE_ac g.es 80 [.ptr (H.length + 5) 0] (fun x => decide (x.to = (a : Int))) _ hel ok80 (by simp only [push_cast, Nat.reduceAdd, Nat.reduceSub, Nat.reduceMul, Nat.reduceLT, Nat.reduceLeDiff, Nat.reduceEqDiff, Int.reduceToNat, ↓reduceIte]) (fun i h => path2_ac _ (a : Int) _ _ (by exact (agetN _ _ 5).trans rfl))).to ?_
              rw [e2]
              simp only [push_cast, Nat.reduceAdd, Nat.reduceSub, Nat.reduceMul, Nat.reduceLT, Nat.reduceLeDiff, Nat.reduceEqDiff, Int.reduceToNat, ↓reduceIte]
              apply AW_drawE [some 58, some 59, some 60, some 61, some 62, some 63, some 64, some 65, some 66, some 67, some 68, none] [([false, false], _), ([true, false], _), ([true, true], _)] [none, none, none, none, none, none, none, none, none, some 0, none, some 1] 2 [(0, [false, false], [16]), (1, [false, false], [58]), (2, [false, false], [13]), (3, [false, false], [60]), (4, [false, false], [17]), (5, [false, false], [61, 0]), (6, [false, false], [63]), (7, [false, false], [64]), (8, [false, false], [65]), (9, [false, false], [59, 6]), (10, [true, false], [16]), (11, [true, false], [67, 0]), (0, [true, false], [16]), (2, [true, false], [13]), (3, [true, false], [60]), (4, [true, false], [17]), (5, [true, false], [61, 0]), (6, [true, false], [63]), (7, [true, false], [64])] [_, _, _, _, _, _, _, _, _, _, _, _]
              case' hm => exact dr
              case' hn => rfl
              case' hok => rfl
              case' hlen => rfl
              case' hd => rfl
              case' h0 => rfl
              case' hstep =>
               simp only [DAllG, push_cast, Option.isSome_some, Option.isSome_none]
               repeat' apply And.intro
               all_goals (apply DOne_V; simp only [push_cast, Nat.reduceAdd, Nat.reduceSub, Nat.reduceMul, Nat.reduceLT, Nat.reduceLeDiff, Nat.reduceEqDiff, Int.reduceToNat, ↓reduceIte, e1] <;> first | exact rfl | omega | exact ⟨rfl, rfl⟩ | exact trivial | exact ⟨by omega, rfl⟩ | exact ⟨by omega, by omega, rfl⟩ | exact ⟨by omega, rfl, rfl⟩ | exact ⟨by omega, by omega, rfl, rfl⟩ | exact ⟨by omega, trivial⟩ | exact ⟨hi0, trivial⟩ | exact ⟨hi0, rfl⟩ | (refine app1_Gr encSt (sz := 2) (fun _ => rfl) cellSt5 _ H.length acc e.st _ rfl rfl (by exact aget0 _ _ _) sl26 sz86 by86 zr86 rfl (by decide) (by decide) (by omega) ?_; exact ⟨rfl, rfl⟩) | trace_state)
              case' hQ => skip
              simp only [push_cast, Nat.reduceAdd, Nat.reduceSub, Nat.reduceMul, Nat.reduceLT, Nat.reduceLeDiff, Nat.reduceEqDiff, Int.reduceToNat, ↓reduceIte, e1]
              refine ⟨hi0, ?_⟩
              repeat' first | refine ⟨by omega, ?_⟩ | refine cI (fun _ => ?_) (fun _ => ?_)
              refine loopW_n (e.fr.toNat, acc ++ [e.st]) ⟨by simp only; omega, ?_⟩ (by simp only; omega) ?_
              · simp only; rw [← q2, List.append_assoc]; rfl
              · simp only [push_cast, Nat.reduceAdd, Nat.reduceSub, Nat.reduceMul, Nat.reduceLT, Nat.reduceLeDiff, Nat.reduceEqDiff, Int.reduceToNat, ↓reduceIte, show ((e.fr.toNat : Nat) : Int) = e.fr by omega]
                exact ok_path H s u g e.fr _
            · have ha0 : a = 0 := by omega
              subst ha0
              have hb0 : backF g.es g.ts.length 0 = [] := by cases g.ts.length <;> rfl
              rw [hb0, List.append_nil] at q2
              refine (reverse_ac H.length acc (by omega) _ (by exact aget0 _ _ _)).to ?_
              rw [← q2] at hR
              rw [hR]
              rw [grS_len H.length (show (encL encSt acc).length = (encL encSt acc.reverse).length by rw [encL_length, encL_length, List.length_reverse])]
              simp only [push_cast, Nat.reduceAdd, Nat.reduceSub, Nat.reduceMul, Nat.reduceLT, Nat.reduceLeDiff, Nat.reduceEqDiff, Int.reduceToNat, ↓reduceIte]
              exact ToJ.row H.length 86 2 (a := [.str s.name, .bool s.var, .sl .none (encTs s.args)]) (a' := [.str s.name, .bool s.var, .sl .none (encTs s.args)]) (b := []) (b' := []) (c := [.bool true, .int .i64 0]) (c' := [.bool true, .int .i64 0]) (by exact aget0 _ _ _) (by rw [flS_len, encL_length]) (Nat.le_refl _) (of_eq_true (flS_sc _ _)) (by simp only [push_cast, Nat.reduceAdd, Nat.reduceSub, Nat.reduceMul, Nat.reduceLT, Nat.reduceLeDiff, Nat.reduceEqDiff, Int.reduceToNat, ↓reduceIte]) (by simp only [push_cast, Nat.reduceAdd, Nat.reduceSub, Nat.reduceMul, Nat.reduceLT, Nat.reduceLeDiff, Nat.reduceEqDiff, Int.reduceToNat, ↓reduceIte]) (by simp only [push_cast, Nat.reduceAdd, Nat.reduceSub, Nat.reduceMul, Nat.reduceLT, Nat.reduceLeDiff, Nat.reduceEqDiff, Int.reduceToNat, ↓reduceIte])
        · rw [if_pos h3] at hR
          rw [hR]
          exact ToJ.fgt (by simp only [push_cast, Nat.reduceAdd, Nat.reduceSub, Nat.reduceMul, Nat.reduceLT, Nat.reduceLeDiff, Nat.reduceEqDiff, Int.reduceToNat, ↓reduceIte, zeroCh_enc])
    · rw [if_pos h2] at hR
      rw [hR]
      exact ToJ.fgt (by simp only [push_cast, Nat.reduceAdd, Nat.reduceSub, Nat.reduceMul, Nat.reduceLT, Nat.reduceLeDiff, Nat.reduceEqDiff, Int.reduceToNat, ↓reduceIte, zeroCh_enc])
  · rw [if_pos h] at hR
    rw [hR]
    exact ToJ.fgt (by simp only [push_cast, Nat.reduceAdd, Nat.reduceSub, Nat.reduceMul, Nat.reduceLT, Nat.reduceLeDiff, Nat.reduceEqDiff, Int.reduceToNat, ↓reduceIte, zeroCh_enc])
end Ab
set_option maxRecDepth 100000
namespace Ab
open Go Go.Proofs
theorem firstErr_skip5 (ts : List Term) : ∀ (i : Nat), (∀ x, x ∈ ts.take i → checkP x = 0) → firstErr ts = firstErr (ts.drop i) := by
  induction ts with
  | nil => intro i _; simp
  | cons t r ih =>
    intro i h
    cases i with
    | zero => rfl
    | succ i =>
      rw [List.drop_succ_cons, firstErr, if_pos (h t (by simp))]
      exact ih i (fun x hx => h x (by simp [hx]))
theorem checkAllR5_ac (ts : List Term) (hlen : ts.length < 1099511627776) (hb : ∀ x, x ∈ ts → x.bulk ≤ 1099511627775) (H : List AObj) :
    ACall Tryz.prog 82 [.sl .none (encTs ts)] H (fun r H' => r = .int .i64 (firstErr ts) ∧ H' = H) := by
  refine ACall_V (H.length) 17 [.tmp 2] Tryz.func82 rfl rfl rfl ?_
  simp only [push_cast, Nat.reduceAdd, Nat.reduceSub, Nat.reduceMul, Nat.reduceLT, Nat.reduceLeDiff, Nat.reduceEqDiff, Int.reduceToNat, ↓reduceIte]
  refine AW_loopW (maskG 18 [6, 0, 0]) (fun (i : Nat) => [(8, .int .i64 i)]) (fun _ => H) (fun i => i ≤ ts.length ∧ ∀ x, x ∈ ts.take i → checkP x = 0) (fun i => ts.length - i) 0 ⟨Nat.zero_le _, by simp⟩ (by simp only [push_cast, Nat.reduceAdd, Nat.reduceSub, Nat.reduceMul, Nat.reduceLT, Nat.reduceLeDiff, Nat.reduceEqDiff, Int.reduceToNat, ↓reduceIte]) (fun i hi => ?_)
  obtain ⟨hi1, hi2⟩ := hi
  have he := firstErr_skip5 ts i hi2
  simp only [push_cast, Nat.reduceAdd, Nat.reduceSub, Nat.reduceMul, Nat.reduceLT, Nat.reduceLeDiff, Nat.reduceEqDiff, Int.reduceToNat, ↓reduceIte]
  refine cI (fun h => ?_) (fun h => ?_)
  · have hil : i < ts.length := by omega
    rw [List.drop_eq_getElem_cons hil, firstErr] at he
    refine ⟨hil, ?_⟩
    refine (checkR_ac (ts[i]'hil) (hb _ (List.getElem_mem hil)) _).to ?_
    simp only [push_cast, Nat.reduceAdd, Nat.reduceSub, Nat.reduceMul, Nat.reduceLT, Nat.reduceLeDiff, Nat.reduceEqDiff, Int.reduceToNat, ↓reduceIte]
    refine cI (fun h2 => ?_) (fun h2 => ?_)
    · repeat' first | refine ⟨by omega, ?_⟩ | refine cI (fun _ => ?_) (fun _ => ?_)
      refine loopW_n (i + 1) ⟨by omega, fun x hx => ?_⟩ (by omega) (by simp only [push_cast, Nat.reduceAdd, Nat.reduceSub, Nat.reduceMul, Nat.reduceLT, Nat.reduceLeDiff, Nat.reduceEqDiff, Int.reduceToNat, ↓reduceIte])
      rw [List.take_succ_eq_append_getElem hil] at hx
      rcases List.mem_append.1 hx with hx | hx
      · exact hi2 x hx
      · simp at hx; subst hx; exact h2
    · rw [he, if_neg h2]
  · rw [he, List.drop_of_length_le (show ts.length ≤ i by omega)]
    rfl
def boundsP (rs : List (Term × Term)) (most : Int) (ts : List Term) : Int := if sysP rs ≠ 0 then sysP rs else if firstErr ts ≠ 0 then firstErr ts else if most < 1 ∨ 4096 < most then 2 else 0
theorem bounds_ac (rs : List (Term × Term)) (hlen : rs.length < 1099511627776) (hb : BndR rs) (most : Int) (ts : List Term) (hl : ts.length < 1099511627776) (hbt : ∀ x, x ∈ ts → x.bulk ≤ 1099511627775) (H : List AObj) :
    ACall Tryz.prog 33 [.sl .none (encL encRu rs), .int .i64 most, .sl .none (encTs ts)] H (fun r H' => r = .int .i64 (boundsP rs most ts) ∧ H' = H) := by
  refine ACall_V (H.length) 22 [.tmp 6] Tryz.func33 rfl rfl rfl ?_
  simp only [push_cast, Nat.reduceAdd, Nat.reduceSub, Nat.reduceMul, Nat.reduceLT, Nat.reduceLeDiff, Nat.reduceEqDiff, Int.reduceToNat, ↓reduceIte]
  refine (checkSystemR_ac rs hlen hb _).to ?_
  simp only [push_cast, Nat.reduceAdd, Nat.reduceSub, Nat.reduceMul, Nat.reduceLT, Nat.reduceLeDiff, Nat.reduceEqDiff, Int.reduceToNat, ↓reduceIte]
  unfold boundsP
  refine cI (fun h => ?_) (fun h => ?_)
  · rw [if_neg (by simpa using h)]
    refine (checkAllR5_ac ts hl hbt _).to ?_
    simp only [push_cast, Nat.reduceAdd, Nat.reduceSub, Nat.reduceMul, Nat.reduceLT, Nat.reduceLeDiff, Nat.reduceEqDiff, Int.reduceToNat, ↓reduceIte]
    refine cI (fun h2 => ?_) (fun h2 => ?_)
    · rw [if_neg (by simpa using h2)]
      refine cI (fun h3 => ?_) (fun h3 => ?_)
      · rw [if_pos (.inl h3)]
      · refine cI (fun h4 => ?_) (fun h4 => ?_)
        · rw [if_pos (.inr h4)]
        · rw [if_neg (by omega)]
    · rw [if_pos h2]
  · rw [if_pos h]
theorem firstErr_two (s u : Term) : firstErr [s, u] = if checkP s = 0 then checkP u else checkP s := by
  simp only [firstErr]
  by_cases h : checkP u = 0
  · rw [if_pos h, h]
  · rw [if_neg h]
theorem path_bad {rs : List (Term × Term)} {s u : Term} {most : Int} (h : boundsP rs most [s, u] ≠ 0) : pathE rs s u most = ((zeroCh, false), boundsP rs most [s, u]) := by
  unfold pathE bothP
  unfold boundsP at h ⊢
  rw [firstErr_two] at h ⊢
  by_cases h1 : sysP rs ≠ 0
  · rw [if_pos h1, if_pos h1, if_pos h1]
  · rw [if_neg h1] at h ⊢
    rw [if_neg h1]
    by_cases h2 : checkP s = 0
    · rw [if_pos h2] at h ⊢
      rw [if_neg (by simpa using h2)]
      by_cases h3 : checkP u ≠ 0
      · rw [if_pos h3, if_pos h3]
      · rw [if_neg h3] at h ⊢
        rw [if_neg h3]
        by_cases h4 : most < 1 ∨ 4096 < most
        · rw [if_pos h4, if_pos h4]
        · rw [if_neg h4] at h; exact absurd rfl h
    · rw [if_neg h2, if_pos h2, if_pos h2]
theorem path_ok {rs : List (Term × Term)} {s u : Term} {most : Int} (h : boundsP rs most [s, u] = 0) : sysP rs = 0 ∧ checkP s = 0 ∧ checkP u = 0 ∧ 1 ≤ most ∧ most ≤ 4096 := by
  unfold boundsP at h
  rw [firstErr_two] at h
  by_cases h1 : sysP rs ≠ 0
  · rw [if_pos h1] at h; exact absurd h h1
  · rw [if_neg h1] at h
    by_cases h2 : checkP s = 0
    · rw [if_pos h2] at h
      by_cases h3 : checkP u ≠ 0
      · rw [if_pos h3] at h; exact absurd h h3
      · rw [if_neg h3] at h
        by_cases h4 : most < 1 ∨ 4096 < most
        · rw [if_pos h4] at h; exact absurd h (by decide)
        · exact ⟨by simpa using h1, h2, by simpa using h3, by omega, by omega⟩
    · rw [if_neg h2, if_pos h2] at h; exact absurd h h2
set_option maxHeartbeats 8000000 in
theorem pathsLaw_ac (rs : List (Term × Term)) (hlen : rs.length < 1099511627776) (hru : RuB rs) (s u : Term) (hs : s.bulk ≤ 1099511627775) (hu : u.bulk ≤ 1099511627775) (most : Int) (H : List AObj) :
    ACall Tryz.prog 6 [.sl .none (encL encRu rs), .agg [.str s.name, .bool s.var, .sl .none (encTs s.args), .str u.name, .bool u.var, .sl .none (encTs u.args)], .int .i64 most] H (fun r H' => r = .bool true ∧ H' = H) := by
  have hb : BndR rs := fun r hr => by have := hru r hr; omega
  have hz : ChB zeroCh := ⟨by simp [zeroCh, zeroT, Term.bulk_mk], by simp [zeroCh], fun x hx => by simp [zeroCh] at hx⟩
  have hbd := fun X => bounds_ac rs hlen hb most [s, u] (by simp) (fun x hx => by simp at hx; rcases hx with rfl | rfl; exact hs; exact hu) X
  rw [encTs_cons, encTs_one] at hbd
  have hpa := fun X => dpath_ac rs hlen hb s u hs hu most X
  obtain ⟨R, hR⟩ : ∃ R, R = pathE rs s u most := ⟨_, rfl⟩
  obtain ⟨B, hB⟩ : ∃ B, B = boundsP rs most [s, u] := ⟨_, rfl⟩
  have hbad := path_bad (rs := rs) (s := s) (u := u) (most := most)
  have hgood := path_ok (rs := rs) (s := s) (u := u) (most := most)
  rw [← hR] at hpa hbad
  rw [← hB] at hbd hbad hgood
  have hcc : ∀ (e : Int) (h : e ≠ 0) X, ACall Tryz.prog 22 [encCh zeroCh, .int .i64 e, encCh zeroCh, .int .i64 e] X (fun r H' => r = .bool true ∧ H' = X) := fun e h X => by
    have h1 := chain5_ac zeroCh e zeroCh e hz hz X
    rw [isCh_self zeroCh zeroCh e (by rw [if_neg h])] at h1
    exact h1
  by_cases hb0 : B ≠ 0
  · have hRb := hbad hb0
    rw [hRb] at hpa
    refine ACall_V (H.length) 95 [.tmp 6] Tryz.func6 rfl rfl rfl ?_
    simp only [push_cast, Nat.reduceAdd, Nat.reduceSub, Nat.reduceMul, Nat.reduceLT, Nat.reduceLeDiff, Nat.reduceEqDiff, Int.reduceToNat, ↓reduceIte]
    refine ⟨by omega, by omega, (hpa _).to ?_⟩
    simp only [push_cast, Nat.reduceAdd, Nat.reduceSub, Nat.reduceMul, Nat.reduceLT, Nat.reduceLeDiff, Nat.reduceEqDiff, Int.reduceToNat, ↓reduceIte]
    refine ⟨by omega, by omega, (hbd _).to ?_⟩
    simp only [push_cast, Nat.reduceAdd, Nat.reduceSub, Nat.reduceMul, Nat.reduceLT, Nat.reduceLeDiff, Nat.reduceEqDiff, Int.reduceToNat, ↓reduceIte]
    refine cI (fun h => absurd h hb0) (fun _ => ?_)
    refine cI (fun h => absurd h hb0) (fun _ => ?_)
    refine (hcc B hb0 _).to ?_
    simp only [push_cast, Nat.reduceAdd, Nat.reduceSub, Nat.reduceMul, Nat.reduceLT, Nat.reduceLeDiff, Nat.reduceEqDiff, Int.reduceToNat, ↓reduceIte]
    refine (alive5_ac _).to ?_
    simp only [push_cast, Nat.reduceAdd, Nat.reduceSub, Nat.reduceMul, Nat.reduceLT, Nat.reduceLeDiff, Nat.reduceEqDiff, Int.reduceToNat, ↓reduceIte]
  · obtain ⟨z1, z2, z3, z4, z5⟩ := hgood (by simpa using hb0)
    have hb1 : B = 0 := by simpa using hb0
    rw [hb1] at hbd
    obtain ⟨m, rfl⟩ : ∃ m : Nat, most = (m : Int) := ⟨most.toNat, by omega⟩
    have hbo : bothP rs s = 0 := by unfold bothP; rw [if_neg (by simpa using z1)]; exact z2
    unfold pathE at hR
    rw [if_neg (by simpa using hbo), if_neg (by simpa using z3), if_neg (by omega), show ((m : Nat) : Int).toNat = m by omega] at hR
    have hsp := fun hh => explore_spec (most := m) (rs := rs) (t := s) z1 z2 (by omega) (by omega) hh
    have hxr := fun X => exploreR_ac rs z1 s z2 m (by omega) (by omega) X
    obtain ⟨G, hG⟩ : ∃ G, G = exploreF rs s m := ⟨_, rfl⟩
    rw [← hG] at hR hsp hxr
    by_cases hg : G.2 ≠ 0
    · rw [if_pos hg] at hR
      rw [hR] at hpa
      refine ACall_V (H.length) 95 [.tmp 6] Tryz.func6 rfl rfl rfl ?_
      simp only [push_cast, Nat.reduceAdd, Nat.reduceSub, Nat.reduceMul, Nat.reduceLT, Nat.reduceLeDiff, Nat.reduceEqDiff, Int.reduceToNat, ↓reduceIte]
      refine ⟨by omega, by omega, (hpa _).to ?_⟩
      simp only [push_cast, Nat.reduceAdd, Nat.reduceSub, Nat.reduceMul, Nat.reduceLT, Nat.reduceLeDiff, Nat.reduceEqDiff, Int.reduceToNat, ↓reduceIte]
      refine ⟨by omega, by omega, (hbd _).to ?_⟩
      simp only [push_cast, Nat.reduceAdd, Nat.reduceSub, Nat.reduceMul, Nat.reduceLT, Nat.reduceLeDiff, Nat.reduceEqDiff, Int.reduceToNat, ↓reduceIte]
      refine ⟨by omega, (hxr _).to ?_⟩
      simp only [push_cast, Nat.reduceAdd, Nat.reduceSub, Nat.reduceMul, Nat.reduceLT, Nat.reduceLeDiff, Nat.reduceEqDiff, Int.reduceToNat, ↓reduceIte, encGE]
      refine cI (fun h => absurd h hg) (fun _ => ?_)
      refine (hcc G.2 hg _).to ?_
      simp only [push_cast, Nat.reduceAdd, Nat.reduceSub, Nat.reduceMul, Nat.reduceLT, Nat.reduceLeDiff, Nat.reduceEqDiff, Int.reduceToNat, ↓reduceIte]
      refine (alive5_ac _).to ?_
      simp only [push_cast, Nat.reduceAdd, Nat.reduceSub, Nat.reduceMul, Nat.reduceLT, Nat.reduceLeDiff, Nat.reduceEqDiff, Int.reduceToNat, ↓reduceIte]
    · rw [if_neg hg] at hR
      obtain ⟨hX, hel⟩ := hsp (by simpa using hg)
      have hg0 : G.2 = 0 := by simpa using hg
      obtain ⟨g, hgg⟩ : ∃ g, g = G.1 := ⟨_, rfl⟩
      have hGG : G = (g, 0) := Prod.ext hgg.symm hg0
      rw [← hgg] at hR hX hel
      rw [hGG] at hxr
      have htl := hX.len
      have hbk : ∀ x, x ∈ g.ts → x.bulk ≤ 1099511627775 := fun x hx => by have := check_small (hX.ck x hx); omega
      have hfd := fun X => findR_ac g.ts u (by omega) hbk hu X
      by_cases hf : findI g.ts u < 0
      · rw [if_pos hf] at hR
        rw [hR] at hpa
        refine ACall_V (H.length) 95 [.tmp 6] Tryz.func6 rfl rfl rfl ?_
        simp only [push_cast, Nat.reduceAdd, Nat.reduceSub, Nat.reduceMul, Nat.reduceLT, Nat.reduceLeDiff, Nat.reduceEqDiff, Int.reduceToNat, ↓reduceIte]
        refine ⟨by omega, by omega, (hpa _).to ?_⟩
        simp only [push_cast, Nat.reduceAdd, Nat.reduceSub, Nat.reduceMul, Nat.reduceLT, Nat.reduceLeDiff, Nat.reduceEqDiff, Int.reduceToNat, ↓reduceIte]
        refine ⟨by omega, by omega, (hbd _).to ?_⟩
        simp only [push_cast, Nat.reduceAdd, Nat.reduceSub, Nat.reduceMul, Nat.reduceLT, Nat.reduceLeDiff, Nat.reduceEqDiff, Int.reduceToNat, ↓reduceIte]
        refine ⟨by omega, (hxr _).to ?_⟩
        simp only [push_cast, Nat.reduceAdd, Nat.reduceSub, Nat.reduceMul, Nat.reduceLT, Nat.reduceLeDiff, Nat.reduceEqDiff, Int.reduceToNat, ↓reduceIte, encGE]
        refine ⟨by omega, (hfd _).to ?_⟩
        simp only [push_cast, Nat.reduceAdd, Nat.reduceSub, Nat.reduceMul, Nat.reduceLT, Nat.reduceLeDiff, Nat.reduceEqDiff, Int.reduceToNat, ↓reduceIte]
        refine cI (fun _ => ?_) (fun h => absurd hf h)
        have hch := fun X => chain5_ac zeroCh 0 zeroCh 0 hz hz X
        rw [isCh_self zeroCh zeroCh 0 (by rw [if_pos rfl])] at hch
        have hch2 : ∀ X, ACall Tryz.prog 22 [encCh zeroCh, .int .i64 0, .agg [.str [], .bool false, .sl .zero [], .sl .zero []], .int .i64 0] X (fun r H' => r = .bool true ∧ H' = X) := fun X =>
          ACall.forget (args' := [encCh zeroCh, .int .i64 0, encCh zeroCh, .int .i64 0]) ⟨Forget.refl _, Forget.refl _, (by rw [zeroCh_enc]; exact fgtW_spec _ _ (by simp only [push_cast, Nat.reduceAdd, Nat.reduceSub, Nat.reduceMul, Nat.reduceLT, Nat.reduceLeDiff, Nat.reduceEqDiff, Int.reduceToNat, ↓reduceIte])), Forget.refl _, trivial⟩ (hch X)
        refine (hch2 _).to ?_
        simp only [push_cast, Nat.reduceAdd, Nat.reduceSub, Nat.reduceMul, Nat.reduceLT, Nat.reduceLeDiff, Nat.reduceEqDiff, Int.reduceToNat, ↓reduceIte]
        refine (alive5_ac _).to ?_
        simp only [push_cast, Nat.reduceAdd, Nat.reduceSub, Nat.reduceMul, Nat.reduceLT, Nat.reduceLeDiff, Nat.reduceEqDiff, Int.reduceToNat, ↓reduceIte]
      · rw [if_neg hf] at hR
        obtain ⟨a0, a1, a2, a3⟩ := findI_at hf
        rw [a1] at hfd
        rw [a1, show ((a0 : Nat) : Int).toNat = a0 by omega] at hR
        rw [hR] at hpa
        obtain ⟨hp1, hp2, q, hp3⟩ := backF_spec hX g.ts.length a0 a2 (by omega)
        obtain ⟨P, hP⟩ : ∃ P, P = (backF g.es g.ts.length a0).reverse := ⟨_, rfl⟩
        have hPl : P.length ≤ 4096 := by rw [hP, List.length_reverse]; omega
        have hCB : ChB (s, P) := ⟨hs, by simp only; omega, fun x hx => hp2 x (by rw [hP] at hx; exact List.mem_reverse.1 hx)⟩
        rw [a3, ← hP, List.nil_append] at hp3
        have hT : termsE rs (s, P) = (q ++ [u], 0) := by
          unfold termsE
          simp only
          rw [if_neg (by omega), if_neg (by simpa using z2)]
          exact hp3
        have hpr := fun X => pathR2_ac hX (by omega) hel a0 a2 X
        have hch := fun X => chain5_ac (s, P) 0 (s, P) 0 hCB hCB X
        rw [isCh_self (s, P) (s, P) 0 (by rw [if_pos rfl])] at hch
        have hla := fun X => lastR_ac rs hru (s, P) hCB (by rw [hT]) X
        rw [hT] at hla
        rw [show (q ++ [u], (0 : Int)).1.getLastD zeroT = u by simp] at hla
        have heq := fun X => equalR_ac u u hu hu X
        rw [decide_eq_true (rfl : u = u)] at heq
        rw [← hP] at hpr hpa
        refine ACall_V (H.length) 95 [.tmp 6] Tryz.func6 rfl rfl rfl ?_
        simp only [push_cast, Nat.reduceAdd, Nat.reduceSub, Nat.reduceMul, Nat.reduceLT, Nat.reduceLeDiff, Nat.reduceEqDiff, Int.reduceToNat, ↓reduceIte]
        refine ⟨by omega, by omega, (hpa _).to ?_⟩
        simp only [push_cast, Nat.reduceAdd, Nat.reduceSub, Nat.reduceMul, Nat.reduceLT, Nat.reduceLeDiff, Nat.reduceEqDiff, Int.reduceToNat, ↓reduceIte]
        refine ⟨by omega, by omega, (hbd _).to ?_⟩
        simp only [push_cast, Nat.reduceAdd, Nat.reduceSub, Nat.reduceMul, Nat.reduceLT, Nat.reduceLeDiff, Nat.reduceEqDiff, Int.reduceToNat, ↓reduceIte]
        refine ⟨by omega, (hxr _).to ?_⟩
        simp only [push_cast, Nat.reduceAdd, Nat.reduceSub, Nat.reduceMul, Nat.reduceLT, Nat.reduceLeDiff, Nat.reduceEqDiff, Int.reduceToNat, ↓reduceIte, encGE]
        refine ⟨by omega, (hfd _).to ?_⟩
        simp only [push_cast, Nat.reduceAdd, Nat.reduceSub, Nat.reduceMul, Nat.reduceLT, Nat.reduceLeDiff, Nat.reduceEqDiff, Int.reduceToNat, ↓reduceIte]
        refine cI (fun h => absurd h (by omega)) (fun _ => ?_)
        apply AW_drawE [some 75, some 76, some 77, some 78, some 79, some 80, some 81, some 82, some 83, some 84, some 85, some 86, some 87, some 88, some 89, some 90, some 91, some 92, some 93, some 94, some 95, some 96, some 97, some 6] [([], _)] [none, none, none, none, none, none, none, none, none, none, none, none, none, none, none, none, none, none, none, none, none, none, none, none] 0 [(0, [], [8]), (1, [], [75]), (2, [], [7, 68]), (3, [], [9, 66]), (4, [], [4, 71]), (5, [], [76, 2]), (6, [], [11, 64]), (7, [], [12, 63]), (8, [], [76, 4, 0]), (9, [], [76, 3, 2]), (10, [], [76, 0, 0, 5]), (11, [], [76, 8]), (12, [], [86]), (13, [], [0, 86]), (14, [], [7, 79]), (15, [], [87, 0, 0]), (16, [], [4, 82]), (17, [], [87, 3]), (18, [], [87, 2, 1]), (19, [], [87, 5]), (20, [], [94]), (21, [], [95]), (22, [], [95, 0]), (23, [], [97])] [_, _, _, _, _, _, _, _, _, _, _, _, _, _, _, _, _, _, _, _, _, _, _, _]
        case' hm => exact dr
        case' hn => rfl
        case' hok => rfl
        case' hlen => rfl
        case' hd => rfl
        case' h0 => rfl
        case' hstep =>
         simp only [DAllG, push_cast, Option.isSome_some, Option.isSome_none]
         repeat' apply And.intro
         all_goals (apply DOne_V; simp only [push_cast, Nat.reduceAdd, Nat.reduceSub, Nat.reduceMul, Nat.reduceLT, Nat.reduceLeDiff, Nat.reduceEqDiff, Int.reduceToNat, ↓reduceIte, decide_true] <;> first | exact rfl | omega | exact ⟨rfl, rfl⟩ | exact trivial | exact ⟨by omega, rfl⟩ | exact ⟨by omega, by omega, rfl⟩ | exact ⟨by omega, rfl, rfl⟩ | exact ⟨by omega, by omega, rfl, rfl⟩ | (refine (hpr _).to ?_; exact ⟨rfl, rfl⟩) | (refine (hch _).to ?_; exact ⟨rfl, rfl⟩) | (refine (hla _).to ?_; exact ⟨rfl, rfl⟩) | (refine (heq _).to ?_; exact ⟨rfl, rfl⟩) | (refine (alive5_ac _).to ?_; exact ⟨rfl, rfl⟩) | exact ⟨by omega, trivial⟩ | trace_state)
        case' hQ => skip
        simp only [push_cast, Nat.reduceAdd, Nat.reduceSub, Nat.reduceMul, Nat.reduceLT, Nat.reduceLeDiff, Nat.reduceEqDiff, Int.reduceToNat, ↓reduceIte]
end Ab
set_option maxRecDepth 10000
namespace Go.Proofs.YtpgjcbeoipldgaaGreat
open Go Ab
namespace dpa
theorem own : ownKnob Tryz.prog.godebug = none := by kernel_rfl
theorem laid : laidOutB Tryz.prog = true := by kernel_rfl
theorem readable : ∀ t, t ∈ Tryz.f6.params.toList → Tryz.prog.readableRec t = true ∧ t < Tryz.prog.types.size := by
  rw [Tryz.params6]; intro t ht
  simp only [List.mem_cons, List.not_mem_nil, or_false] at ht
  rcases ht with rfl | rfl | rfl <;> exact ⟨by kernel_rfl, of_decide_eq_true (by kernel_rfl)⟩
theorem closed : closedK Tryz.prog [22, 94, 25, 9, 4, 23, 63, 3] = true := by kernel_rfl
theorem contract (H : Type) (enc : TypeId × Value → H) (W : World) (base : Nat) (args : Array Value) (ds gs : List (DataW H)) (before : List MemPlace)
    (hval : ∀ (j : Nat) t v, Tryz.f6.params[j]? = some t → args[j]? = some v → Value.okWide Tryz.prog W .any base t v)
    (hW : DataW.Whole enc Tryz.prog Tryz.f6.params.toList Rows.derivePathsSpec.vars false W args.toList ds gs before) (hk : Rows.uptoSmall H (ds ++ gs) = true) :
    Calls Tryz.prog 6 args W fun e W' => ∃ v, e = .returned v ∧ Rows.derivePathsSpec.post enc Tryz.prog Tryz.f6 false true false false W args v W' := by
  have hW' := hW
  obtain ⟨p, q, hA0, hV, rfl, hfz, hnd⟩ := hW
  have hA : DataW.TrodAll enc Tryz.prog W 0 (fun _ => true) true Tryz.f6.params.toList args.toList ds p := hA0
  rw [Tryz.params6] at hA hval
  obtain ⟨v0, vs0, d0, ds0, p0, q0, hargs, rfl, rfl, h0, r0⟩ := ChangeShapes.trodAll_cons hA
  obtain ⟨v1, vs1, d1, ds1, p1, q1, rfl, rfl, rfl, h1, r1⟩ := ChangeShapes.trodAll_cons r0
  obtain ⟨v2, vs2, d2, ds2, p2, q2, rfl, rfl, rfl, h2, r2⟩ := ChangeShapes.trodAll_cons r1
  obtain ⟨rfl, rfl, rfl⟩ := ChangeShapes.trodAll_nil r2
  obtain rfl : args = #[v0, v1, v2] := by cases args; simp_all
  have hg : gs = [] := by cases gs with | nil => rfl | cons _ _ => exact hV.elim
  subst hg
  have hb : Rows.uptoBulk d0 + Rows.uptoBulk d1 + Rows.uptoBulk d2 ≤ 1048576 := by
    have := of_decide_eq_true hk
    simp only [List.cons_append, List.nil_append, List.append_nil, Rows.uptoBulkAll] at this
    omega
  obtain ⟨n0, a0, e0, x0⟩ := arg_slice closed (by decide) Tryz.underlying22 (hval 0 _ v0 rfl rfl) h0
  obtain ⟨n1, a1, e1, x1⟩ := arg_array closed (by decide) Tryz.underlying63 (hval 1 _ v1 rfl rfl) h1
  obtain ⟨n2, a2, e2, x2⟩ := arg_scalar closed (by decide) Tryz.underlying3 (hval 2 _ v2 rfl rfl) h2
  obtain ⟨rs, f0, b0, c0⟩ := rules_form n0 d0 [a0] e0
  obtain ⟨s, u, f1, b1⟩ := q2_form n1 d1 a1 e1
  obtain ⟨mo, rfl, f2⟩ := toAV_int kdInt e2
  try simp only [List.cons.injEq, and_true] at f0
  try simp only [List.cons.injEq, and_true] at f2
  rw [f0] at x0; rw [f1] at x1; rw [f2] at x2
  have hc := law_calls (args := #[v0, v1, v2]) (avs := [.sl .none (encL encRu rs), .agg [.str s.name, .bool s.var, .sl .none (encTs s.args), .str u.name, .bool u.var, .sl .none (encTs u.args)], .int .i64 mo]) (W := W) (pathsLaw_ac rs (by omega) (fun r hr => by have := c0 r hr; omega) s u (by omega) (by omega) mo []) (fun h => by simp [tabOn] at h) rfl (fun i hi hi' => by
    match i, hi with
    | 0, _ => exact x0
    | 1, _ => exact x1
    | 2, _ => exact x2)
  refine hc.mono fun e W' ⟨he, hbl⟩ => ?_
  subst he
  exact ⟨_, rfl, post_law rfl ⟨rfl, rfl, rfl⟩ hW' hbl rfl Tryz.underlying4 laid readable⟩
set_option maxRecDepth 100000 in
theorem lifted (os : Os) (started : os.Started) (H : Type) (enc : TypeId × Value → H) (F : Stop.Interp) :
    ReturnsInHanded {} Tryz.checked os 6 .any ((Rows.OpenSpec.upto Rows.derivePathsSpec).pre6 enc Tryz.prog Tryz.f6 Rows.derivePathsUptoRow.domain false) (((Rows.OpenSpec.upto Rows.derivePathsSpec).at F).post enc Tryz.prog Tryz.f6 false true false false) := by
  refine returnsInHanded_of_cond (C := Tryz.checked) (s := Rows.OpenSpec.upto Rows.derivePathsSpec) (k := Rows.uptoSmall) rfl own started (by kernel_rfl) Tryz.func6
    (OpenSpec.witness (enc := enc) (C := Tryz.checked) (s := Rows.OpenSpec.upto Rows.derivePathsSpec) (k := Rows.uptoSmall) rfl false
      ⟨#[], #[.slice none 0 0, .agg #[.string ⟨#[]⟩, .bool false, .slice none 0 0, .string ⟨#[]⟩, .bool false, .slice none 0 0], .int .i64 0], []⟩ 8 (by kernel_rfl) (by kernel_rfl) (by kernel_rfl)
      (x := ([.nil, .agg [.agg [.lit (.string []), .lit (.bool false), .nil], .agg [.lit (.string []), .lit (.bool false), .nil]], .lit (.int .i64 0)], [], [])) (by kernel_rfl) rfl (by kernel_rfl)) ?_
  intro W base args ds gs before hval hW _ hk _
  exact contract H enc W base args ds gs before hval hW hk
theorem over : Rows.derivePathsUptoRow.holds Tryz.pinned (Rows.OpenSpec.upto Rows.derivePathsSpec) :=
  OpenClaim.holds_of_cond 6 Tryz.f6 rfl rfl rfl rfl rfl rfl rfl ⟨rfl, rfl, rfl, rfl, rfl⟩ rfl rfl rfl rfl rfl (by kernel_rfl) Tryz.func6 (by kernel_rfl)
    (of_decide_eq_true (by kernel_rfl)) (by unfold Func.isWrapper; first | (rw [if_pos (by decide +kernel)]; kernel_rfl) | (rw [if_neg (by decide +kernel)]; exact ⟨rfl, rfl⟩))
    (fun os started H enc _ F => lifted os started H enc F)
end dpa
theorem derivePaths_upto : Rows.DerivePathsUptoSaid := dpa.over
end Go.Proofs.YtpgjcbeoipldgaaGreat
