/-
  NARROWER THAN 'FOR EVERY INPUT', by the rows' own cells (each row's printed sentence says how): WeightOrients: loops · WeightDecreases: loops.
  DERIVED. THE GIVEN ROWS OF THIS SEAT. 2 by the template 'for every input the law returns true; each argument reads behind the call as it read before'; 0 by the template 'total and deterministic' (their statements: YtohdojbfkcodjaaGreatTotals.lean).
  GIVEN WITH THE SEED: the statements are not yours to turn. If you find one false, say at which input.
  Laid BY PROGRAM, IN A SANDBOX (cutbox-rows.mjs): the forced cells as the released guide's own fill.sh prints them over the translation f5a714aad7f95511… (all of the seat's roots in one cut). By AI agents, Wed Nov 11 2026. No macro, syntax, notation, axiom, sorry.
-/
import Derived.Test.YtohdojbfkcodjaaGreatChecked
import GoSem.Claim
import GoSem.ClaimJoined
import GoSem.ClaimMapViews
import Derived.JoinedTies
import Derived.KernelRfl
namespace Go.Proofs.YtohdojbfkcodjaaGreat
/- THE CELL 'sum', in the pinned program and in every row, IS THE sha256 OF THE DUMP (.gsa) THAT YtohdojbfkcodjaaGreatProg.lean LOADS. Nothing in Lean hashes anything: it is a label: what it is worth is what the hold of that sum in a sandbox is worth. -/
noncomputable def Tryz.pinned : Pinned := { name := "ytohdojbfkcodjaagreat", sum := "f5a714aad7f95511b2080b217593ae3ca6c119bf56ab859f46a6c2affe83489b", checked := Tryz.checked }
namespace Rows
def none {H : Type} : Left H := { results := [], args := [] }

/-- 'dwindlelaw07.WeightOrients': WHATEVER THE INPUT: true; the input reads as it did. -/
def weightOrientsSpec : ChangeSpec := { name := "weightOrients", fn := fun _ => fun
  | [d1, d2] => { results := [.lit (.bool true)], args := [d1, d2] }
  | _ => none }
def weightOrientsRow : OpenClaim := { program := "ytohdojbfkcodjaagreat", sum := "f5a714aad7f95511b2080b217593ae3ca6c119bf56ab859f46a6c2affe83489b", func := "dwindle/dwindlelaw07.WeightOrients", spec := "weightOrients", inPlace := ["internal/bytealg.abigen_runtime_cmpstring"], unfollowed := true, recurses := true, loops := true, plainKeys := false, apart := false }
def WeightOrientsSaid : Prop := weightOrientsRow.holds Tryz.pinned (OpenSpec.ofChange weightOrientsSpec)

/-- ITS FALSE NEIGHBOUR: 'it returns false'. Refute it at one input. -/
def weightOrientsWrong : ChangeSpec := { name := "weightOrients", fn := fun _ => fun
  | [d1, d2] => { results := [.lit (.bool false)], args := [d1, d2] }
  | _ => none }
def WeightOrientsWrongFalsely : Prop := weightOrientsRow.holds Tryz.pinned (OpenSpec.ofChange weightOrientsWrong)

/-- 'dwindlelaw07.WeightDecreases': WHATEVER THE INPUT: true; the input reads as it did. -/
def weightDecreasesSpec : ChangeSpec := { name := "weightDecreases", fn := fun _ => fun
  | [d1, d2, d3] => { results := [.lit (.bool true)], args := [d1, d2, d3] }
  | _ => none }
def weightDecreasesRow : OpenClaim := { program := "ytohdojbfkcodjaagreat", sum := "f5a714aad7f95511b2080b217593ae3ca6c119bf56ab859f46a6c2affe83489b", func := "dwindle/dwindlelaw07.WeightDecreases", spec := "weightDecreases", inPlace := ["internal/bytealg.abigen_runtime_cmpstring"], unfollowed := true, recurses := true, loops := true, plainKeys := false, apart := false }
def WeightDecreasesSaid : Prop := weightDecreasesRow.holds Tryz.pinned (OpenSpec.ofChange weightDecreasesSpec)

/-- ITS FALSE NEIGHBOUR: 'it returns false'. Refute it at one input. -/
def weightDecreasesWrong : ChangeSpec := { name := "weightDecreases", fn := fun _ => fun
  | [d1, d2, d3] => { results := [.lit (.bool false)], args := [d1, d2, d3] }
  | _ => none }
def WeightDecreasesWrongFalsely : Prop := weightDecreasesRow.holds Tryz.pinned (OpenSpec.ofChange weightDecreasesWrong)

/- THE SECOND FORM. 'bulk': how many values and letters a reading holds, each counted each time it is reached (what is shared counts as often as it is met; a slice's spare places count too). A statement '..UptoSaid' is the law's where the arguments, and the package variables that the reading takes, are together of bulk at most 1048576: NARROWER than '..Said'. Prove '..Said' where nothing that the law and all that it calls make is longer than what came in: it says more and counts as full. Else prove '..UptoSaid'. A law counts once. -/
mutual
def uptoBulk {H : Type} : DataW H → Nat
  | .lit (.string bytes) => bytes.length + 1
  | .lit _ => 1
  | .nil => 1
  | .ptr d => uptoBulk d + 1
  | .slice elems spare => uptoBulkAll elems + uptoBulkAll spare + 1
  | .agg parts => uptoBulkAll parts + 1
  | .iface _ d => uptoBulk d + 1
  | .map entries => uptoBulkEntries entries + 1
  | .held _ => 1
def uptoBulkAll {H : Type} : List (DataW H) → Nat
  | [] => 0
  | d :: r => uptoBulk d + uptoBulkAll r
def uptoBulkEntries {H : Type} : List (Lit × DataW H) → Nat
  | [] => 0
  | x :: r => uptoBulkEntry x + uptoBulkEntries r
def uptoBulkEntry {H : Type} : Lit × DataW H → Nat
  | (.string bytes, d) => bytes.length + uptoBulk d + 1
  | (_, d) => uptoBulk d + 1
 end
def uptoSmall : (H : Type) → List (DataW H) → Bool := fun _ ds => decide (uptoBulkAll ds ≤ 1048576)
def OpenSpec.upto (s : _root_.Go.ChangeSpec) : _root_.Go.OpenSpec := { _root_.Go.OpenSpec.ofChange s with cond := some uptoSmall }

/-- 'dwindlelaw07.WeightOrients', WHERE WHAT IT READS IS OF BULK AT MOST 1048576: true; the input reads as it did. -/
def weightOrientsUptoRow : OpenClaim := { program := "ytohdojbfkcodjaagreat", sum := "f5a714aad7f95511b2080b217593ae3ca6c119bf56ab859f46a6c2affe83489b", func := "dwindle/dwindlelaw07.WeightOrients", spec := "weightOrients", inPlace := ["internal/bytealg.abigen_runtime_cmpstring"], unfollowed := true, recurses := true, loops := true, plainKeys := false, apart := false, narrowed := true }
def WeightOrientsUptoSaid : Prop := weightOrientsUptoRow.holds Tryz.pinned (OpenSpec.upto weightOrientsSpec)

/-- 'dwindlelaw07.WeightDecreases', WHERE WHAT IT READS IS OF BULK AT MOST 1048576: true; the input reads as it did. -/
def weightDecreasesUptoRow : OpenClaim := { program := "ytohdojbfkcodjaagreat", sum := "f5a714aad7f95511b2080b217593ae3ca6c119bf56ab859f46a6c2affe83489b", func := "dwindle/dwindlelaw07.WeightDecreases", spec := "weightDecreases", inPlace := ["internal/bytealg.abigen_runtime_cmpstring"], unfollowed := true, recurses := true, loops := true, plainKeys := false, apart := false, narrowed := true }
def WeightDecreasesUptoSaid : Prop := weightDecreasesUptoRow.holds Tryz.pinned (OpenSpec.upto weightDecreasesSpec)

end Rows
end Go.Proofs.YtohdojbfkcodjaaGreat
