/-
  NARROWER THAN 'FOR EVERY INPUT', by the rows' own cells (each row's printed sentence says how): DeriveTerms: loops · DeriveJoins: loops · DeriveLifts: loops · DerivePaths: loops · DeriveWhole: loops · DeriveExplores: loops.
  DERIVED. THE GIVEN ROWS OF THIS SEAT. 6 by the template 'for every input the law returns true; each argument reads behind the call as it read before'; 0 by the template 'total and deterministic' (their statements: YtpgjcbeoipldgaaGreatTotals.lean).
  GIVEN WITH THE SEED: the statements are not yours to turn. If you find one false, say at which input.
  Laid BY PROGRAM, IN A SANDBOX (cutbox-rows.mjs): the forced cells as the released guide's own fill.sh prints them over the translation 256cc653107a00fa… (all of the seat's roots in one cut). By AI agents, Wed Nov 11 2026. No macro, syntax, notation, axiom, sorry.
-/
import Derived.Test.YtpgjcbeoipldgaaGreatChecked
import GoSem.Claim
import GoSem.ClaimJoined
import GoSem.ClaimMapViews
import Derived.JoinedTies
import Derived.KernelRfl
namespace Go.Proofs.YtpgjcbeoipldgaaGreat
/- THE CELL 'sum', in the pinned program and in every row, IS THE sha256 OF THE DUMP (.gsa) THAT YtpgjcbeoipldgaaGreatProg.lean LOADS. Nothing in Lean hashes anything: it is a label: what it is worth is what the hold of that sum in a sandbox is worth. -/
noncomputable def Tryz.pinned : Pinned := { name := "ytpgjcbeoipldgaagreat", sum := "256cc653107a00faaad82dfd2b5670b634131f4c8544ca8334e240eab7d83d7d", checked := Tryz.checked }
namespace Rows
def none {H : Type} : Left H := { results := [], args := [] }

/-- 'dwindlelaw05.DeriveTerms': WHATEVER THE INPUT: true; the input reads as it did. -/
def deriveTermsSpec : ChangeSpec := { name := "deriveTerms", fn := fun _ => fun
  | [d1, d2, d3] => { results := [.lit (.bool true)], args := [d1, d2, d3] }
  | _ => none }
def deriveTermsRow : OpenClaim := { program := "ytpgjcbeoipldgaagreat", sum := "256cc653107a00faaad82dfd2b5670b634131f4c8544ca8334e240eab7d83d7d", func := "dwindle/dwindlelaw05.DeriveTerms", spec := "deriveTerms", inPlace := ["internal/bytealg.abigen_runtime_cmpstring", "slices.overlaps[dwindle/api.Bind]"], unfollowed := true, recurses := true, loops := true, apart := false }
def DeriveTermsSaid : Prop := deriveTermsRow.holds Tryz.pinned (OpenSpec.ofChange deriveTermsSpec)

/-- ITS FALSE NEIGHBOUR: 'it returns false'. Refute it at one input. -/
def deriveTermsWrong : ChangeSpec := { name := "deriveTerms", fn := fun _ => fun
  | [d1, d2, d3] => { results := [.lit (.bool false)], args := [d1, d2, d3] }
  | _ => none }
def DeriveTermsWrongFalsely : Prop := deriveTermsRow.holds Tryz.pinned (OpenSpec.ofChange deriveTermsWrong)

/-- 'dwindlelaw05.DeriveJoins': WHATEVER THE INPUT: true; the input reads as it did. -/
def deriveJoinsSpec : ChangeSpec := { name := "deriveJoins", fn := fun _ => fun
  | [d1, d2, d3] => { results := [.lit (.bool true)], args := [d1, d2, d3] }
  | _ => none }
def deriveJoinsRow : OpenClaim := { program := "ytpgjcbeoipldgaagreat", sum := "256cc653107a00faaad82dfd2b5670b634131f4c8544ca8334e240eab7d83d7d", func := "dwindle/dwindlelaw05.DeriveJoins", spec := "deriveJoins", inPlace := ["internal/bytealg.abigen_runtime_cmpstring", "slices.overlaps[dwindle/api.Bind]"], unfollowed := true, recurses := true, loops := true, apart := false }
def DeriveJoinsSaid : Prop := deriveJoinsRow.holds Tryz.pinned (OpenSpec.ofChange deriveJoinsSpec)

/-- ITS FALSE NEIGHBOUR: 'it returns false'. Refute it at one input. -/
def deriveJoinsWrong : ChangeSpec := { name := "deriveJoins", fn := fun _ => fun
  | [d1, d2, d3] => { results := [.lit (.bool false)], args := [d1, d2, d3] }
  | _ => none }
def DeriveJoinsWrongFalsely : Prop := deriveJoinsRow.holds Tryz.pinned (OpenSpec.ofChange deriveJoinsWrong)

/-- 'dwindlelaw05.DeriveLifts': WHATEVER THE INPUT: true; the input reads as it did. -/
def deriveLiftsSpec : ChangeSpec := { name := "deriveLifts", fn := fun _ => fun
  | [d1, d2, d3] => { results := [.lit (.bool true)], args := [d1, d2, d3] }
  | _ => none }
def deriveLiftsRow : OpenClaim := { program := "ytpgjcbeoipldgaagreat", sum := "256cc653107a00faaad82dfd2b5670b634131f4c8544ca8334e240eab7d83d7d", func := "dwindle/dwindlelaw05.DeriveLifts", spec := "deriveLifts", inPlace := ["internal/bytealg.abigen_runtime_cmpstring", "slices.overlaps[dwindle/api.Bind]"], unfollowed := true, recurses := true, loops := true, apart := false }
def DeriveLiftsSaid : Prop := deriveLiftsRow.holds Tryz.pinned (OpenSpec.ofChange deriveLiftsSpec)

/-- ITS FALSE NEIGHBOUR: 'it returns false'. Refute it at one input. -/
def deriveLiftsWrong : ChangeSpec := { name := "deriveLifts", fn := fun _ => fun
  | [d1, d2, d3] => { results := [.lit (.bool false)], args := [d1, d2, d3] }
  | _ => none }
def DeriveLiftsWrongFalsely : Prop := deriveLiftsRow.holds Tryz.pinned (OpenSpec.ofChange deriveLiftsWrong)

/-- 'dwindlelaw05.DerivePaths': WHATEVER THE INPUT: true; the input reads as it did. -/
def derivePathsSpec : ChangeSpec := { name := "derivePaths", fn := fun _ => fun
  | [d1, d2, d3] => { results := [.lit (.bool true)], args := [d1, d2, d3] }
  | _ => none }
def derivePathsRow : OpenClaim := { program := "ytpgjcbeoipldgaagreat", sum := "256cc653107a00faaad82dfd2b5670b634131f4c8544ca8334e240eab7d83d7d", func := "dwindle/dwindlelaw05.DerivePaths", spec := "derivePaths", inPlace := ["internal/bytealg.abigen_runtime_cmpstring", "slices.overlaps[dwindle/api.Bind]"], unfollowed := true, recurses := true, loops := true, apart := false }
def DerivePathsSaid : Prop := derivePathsRow.holds Tryz.pinned (OpenSpec.ofChange derivePathsSpec)

/-- ITS FALSE NEIGHBOUR: 'it returns false'. Refute it at one input. -/
def derivePathsWrong : ChangeSpec := { name := "derivePaths", fn := fun _ => fun
  | [d1, d2, d3] => { results := [.lit (.bool false)], args := [d1, d2, d3] }
  | _ => none }
def DerivePathsWrongFalsely : Prop := derivePathsRow.holds Tryz.pinned (OpenSpec.ofChange derivePathsWrong)

/-- 'dwindlelaw05.DeriveWhole': WHATEVER THE INPUT: true; the input reads as it did. -/
def deriveWholeSpec : ChangeSpec := { name := "deriveWhole", fn := fun _ => fun
  | [d1, d2, d3] => { results := [.lit (.bool true)], args := [d1, d2, d3] }
  | _ => none }
def deriveWholeRow : OpenClaim := { program := "ytpgjcbeoipldgaagreat", sum := "256cc653107a00faaad82dfd2b5670b634131f4c8544ca8334e240eab7d83d7d", func := "dwindle/dwindlelaw05.DeriveWhole", spec := "deriveWhole", inPlace := ["internal/bytealg.abigen_runtime_cmpstring", "slices.overlaps[dwindle/api.Bind]"], unfollowed := true, recurses := true, loops := true, apart := false }
def DeriveWholeSaid : Prop := deriveWholeRow.holds Tryz.pinned (OpenSpec.ofChange deriveWholeSpec)

/-- ITS FALSE NEIGHBOUR: 'it returns false'. Refute it at one input. -/
def deriveWholeWrong : ChangeSpec := { name := "deriveWhole", fn := fun _ => fun
  | [d1, d2, d3] => { results := [.lit (.bool false)], args := [d1, d2, d3] }
  | _ => none }
def DeriveWholeWrongFalsely : Prop := deriveWholeRow.holds Tryz.pinned (OpenSpec.ofChange deriveWholeWrong)

/-- 'dwindlelaw05.DeriveExplores': WHATEVER THE INPUT: true; the input reads as it did. -/
def deriveExploresSpec : ChangeSpec := { name := "deriveExplores", fn := fun _ => fun
  | [d1, d2, d3] => { results := [.lit (.bool true)], args := [d1, d2, d3] }
  | _ => none }
def deriveExploresRow : OpenClaim := { program := "ytpgjcbeoipldgaagreat", sum := "256cc653107a00faaad82dfd2b5670b634131f4c8544ca8334e240eab7d83d7d", func := "dwindle/dwindlelaw05.DeriveExplores", spec := "deriveExplores", inPlace := ["internal/bytealg.abigen_runtime_cmpstring", "slices.overlaps[dwindle/api.Bind]"], unfollowed := true, recurses := true, loops := true, apart := false }
def DeriveExploresSaid : Prop := deriveExploresRow.holds Tryz.pinned (OpenSpec.ofChange deriveExploresSpec)

/-- ITS FALSE NEIGHBOUR: 'it returns false'. Refute it at one input. -/
def deriveExploresWrong : ChangeSpec := { name := "deriveExplores", fn := fun _ => fun
  | [d1, d2, d3] => { results := [.lit (.bool false)], args := [d1, d2, d3] }
  | _ => none }
def DeriveExploresWrongFalsely : Prop := deriveExploresRow.holds Tryz.pinned (OpenSpec.ofChange deriveExploresWrong)

/- THE SECOND FORM. 'bulk': how many values and letters a reading holds, each counted each time it is reached (what is shared counts as often as it is met; a slice's spare places count too). A statement '..UptoSaid' is the law's where the arguments, and the package variables that the reading takes, are together of bulk at most 1048576: NARROWER than '..Said'. Prove '..Said' where nothing that the law and all that it calls make is longer than what came in: it says more and counts as full. Else prove '..UptoSaid'. A law counts once. -/
mutual
def uptoBulk {H : Type} : DataW H → Nat
  | .lit (.string bytes) => bytes.length + 1
  | .lit _ => 1
  | .nil => 1
  | .ptr d => uptoBulk d + 1
  | .slice elems spare => uptoBulkAll elems + uptoBulkAll spare + 1
  | .agg parts => uptoBulkAll parts + 1
  | .iface _ d => uptoBulk d + 1
  | .map entries => uptoBulkEntries entries + 1
  | .held _ => 1
def uptoBulkAll {H : Type} : List (DataW H) → Nat
  | [] => 0
  | d :: r => uptoBulk d + uptoBulkAll r
def uptoBulkEntries {H : Type} : List (Lit × DataW H) → Nat
  | [] => 0
  | x :: r => uptoBulkEntry x + uptoBulkEntries r
def uptoBulkEntry {H : Type} : Lit × DataW H → Nat
  | (.string bytes, d) => bytes.length + uptoBulk d + 1
  | (_, d) => uptoBulk d + 1
 end
def uptoSmall : (H : Type) → List (DataW H) → Bool := fun _ ds => decide (uptoBulkAll ds ≤ 1048576)
def OpenSpec.upto (s : _root_.Go.ChangeSpec) : _root_.Go.OpenSpec := { _root_.Go.OpenSpec.ofChange s with cond := some uptoSmall }

/-- 'dwindlelaw05.DeriveTerms', WHERE WHAT IT READS IS OF BULK AT MOST 1048576: true; the input reads as it did. -/
def deriveTermsUptoRow : OpenClaim := { program := "ytpgjcbeoipldgaagreat", sum := "256cc653107a00faaad82dfd2b5670b634131f4c8544ca8334e240eab7d83d7d", func := "dwindle/dwindlelaw05.DeriveTerms", spec := "deriveTerms", inPlace := ["internal/bytealg.abigen_runtime_cmpstring", "slices.overlaps[dwindle/api.Bind]"], unfollowed := true, recurses := true, loops := true, apart := false, narrowed := true }
def DeriveTermsUptoSaid : Prop := deriveTermsUptoRow.holds Tryz.pinned (OpenSpec.upto deriveTermsSpec)

/-- 'dwindlelaw05.DeriveJoins', WHERE WHAT IT READS IS OF BULK AT MOST 1048576: true; the input reads as it did. -/
def deriveJoinsUptoRow : OpenClaim := { program := "ytpgjcbeoipldgaagreat", sum := "256cc653107a00faaad82dfd2b5670b634131f4c8544ca8334e240eab7d83d7d", func := "dwindle/dwindlelaw05.DeriveJoins", spec := "deriveJoins", inPlace := ["internal/bytealg.abigen_runtime_cmpstring", "slices.overlaps[dwindle/api.Bind]"], unfollowed := true, recurses := true, loops := true, apart := false, narrowed := true }
def DeriveJoinsUptoSaid : Prop := deriveJoinsUptoRow.holds Tryz.pinned (OpenSpec.upto deriveJoinsSpec)

/-- 'dwindlelaw05.DeriveLifts', WHERE WHAT IT READS IS OF BULK AT MOST 1048576: true; the input reads as it did. -/
def deriveLiftsUptoRow : OpenClaim := { program := "ytpgjcbeoipldgaagreat", sum := "256cc653107a00faaad82dfd2b5670b634131f4c8544ca8334e240eab7d83d7d", func := "dwindle/dwindlelaw05.DeriveLifts", spec := "deriveLifts", inPlace := ["internal/bytealg.abigen_runtime_cmpstring", "slices.overlaps[dwindle/api.Bind]"], unfollowed := true, recurses := true, loops := true, apart := false, narrowed := true }
def DeriveLiftsUptoSaid : Prop := deriveLiftsUptoRow.holds Tryz.pinned (OpenSpec.upto deriveLiftsSpec)

/-- 'dwindlelaw05.DerivePaths', WHERE WHAT IT READS IS OF BULK AT MOST 1048576: true; the input reads as it did. -/
def derivePathsUptoRow : OpenClaim := { program := "ytpgjcbeoipldgaagreat", sum := "256cc653107a00faaad82dfd2b5670b634131f4c8544ca8334e240eab7d83d7d", func := "dwindle/dwindlelaw05.DerivePaths", spec := "derivePaths", inPlace := ["internal/bytealg.abigen_runtime_cmpstring", "slices.overlaps[dwindle/api.Bind]"], unfollowed := true, recurses := true, loops := true, apart := false, narrowed := true }
def DerivePathsUptoSaid : Prop := derivePathsUptoRow.holds Tryz.pinned (OpenSpec.upto derivePathsSpec)

/-- 'dwindlelaw05.DeriveWhole', WHERE WHAT IT READS IS OF BULK AT MOST 1048576: true; the input reads as it did. -/
def deriveWholeUptoRow : OpenClaim := { program := "ytpgjcbeoipldgaagreat", sum := "256cc653107a00faaad82dfd2b5670b634131f4c8544ca8334e240eab7d83d7d", func := "dwindle/dwindlelaw05.DeriveWhole", spec := "deriveWhole", inPlace := ["internal/bytealg.abigen_runtime_cmpstring", "slices.overlaps[dwindle/api.Bind]"], unfollowed := true, recurses := true, loops := true, apart := false, narrowed := true }
def DeriveWholeUptoSaid : Prop := deriveWholeUptoRow.holds Tryz.pinned (OpenSpec.upto deriveWholeSpec)

/-- 'dwindlelaw05.DeriveExplores', WHERE WHAT IT READS IS OF BULK AT MOST 1048576: true; the input reads as it did. -/
def deriveExploresUptoRow : OpenClaim := { program := "ytpgjcbeoipldgaagreat", sum := "256cc653107a00faaad82dfd2b5670b634131f4c8544ca8334e240eab7d83d7d", func := "dwindle/dwindlelaw05.DeriveExplores", spec := "deriveExplores", inPlace := ["internal/bytealg.abigen_runtime_cmpstring", "slices.overlaps[dwindle/api.Bind]"], unfollowed := true, recurses := true, loops := true, apart := false, narrowed := true }
def DeriveExploresUptoSaid : Prop := deriveExploresUptoRow.holds Tryz.pinned (OpenSpec.upto deriveExploresSpec)

end Rows
end Go.Proofs.YtpgjcbeoipldgaaGreat
