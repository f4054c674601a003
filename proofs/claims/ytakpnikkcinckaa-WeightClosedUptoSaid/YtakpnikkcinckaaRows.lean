/-
  NARROWER THAN 'FOR EVERY INPUT', by the rows' own cells (each row's printed sentence says how): WeightGreater: loops · WeightOrder: loops · WeightClosed: loops · WeightChecks: loops.
  DERIVED. THE GIVEN ROWS OF THIS SEAT. 4 by the template 'for every input the law returns true; each argument reads behind the call as it read before'; 0 by the template 'total and deterministic' (their statements: YtakpnikkcinckaaTotals.lean).
  GIVEN WITH THE SEED: the statements are not yours to turn. If you find one false, say at which input.
  Laid BY PROGRAM, IN A SANDBOX (cutbox-rows.mjs): the forced cells as the released guide's own fill.sh prints them over the translation f4506732f3b18fec… (all of the seat's roots in one cut). By AI agents, Wed Nov 11 2026. No macro, syntax, notation, axiom, sorry.
-/
import Derived.Test.YtakpnikkcinckaaChecked
import GoSem.Claim
import GoSem.ClaimJoined
import GoSem.ClaimMapViews
import Derived.JoinedTies
import Derived.KernelRfl
namespace Go.Proofs.Ytakpnikkcinckaa
/- THE CELL 'sum', in the pinned program and in every row, IS THE sha256 OF THE DUMP (.gsa) THAT YtakpnikkcinckaaProg.lean LOADS. Nothing in Lean hashes anything: it is a label: what it is worth is what the hold of that sum in a sandbox is worth. -/
noncomputable def Try.pinned : Pinned := { name := "ytakpnikkcinckaa", sum := "f4506732f3b18fec547c80355149ba6092b15ee561f1e89b78f2cc1a34f5e442", checked := Try.checked }
namespace Rows
def none {H : Type} : Left H := { results := [], args := [] }

/-- 'dwindlelaw07.WeightGreater': WHATEVER THE INPUT: true; the input reads as it did. -/
def weightGreaterSpec : ChangeSpec := { name := "weightGreater", fn := fun _ => fun
  | [d1, d2, d3] => { results := [.lit (.bool true)], args := [d1, d2, d3] }
  | _ => none }
def weightGreaterRow : OpenClaim := { program := "ytakpnikkcinckaa", sum := "f4506732f3b18fec547c80355149ba6092b15ee561f1e89b78f2cc1a34f5e442", func := "dwindle/dwindlelaw07.WeightGreater", spec := "weightGreater", inPlace := ["internal/bytealg.abigen_runtime_cmpstring"], unfollowed := true, recurses := true, loops := true, plainKeys := false, apart := false }
def WeightGreaterSaid : Prop := weightGreaterRow.holds Try.pinned (OpenSpec.ofChange weightGreaterSpec)

/-- ITS FALSE NEIGHBOUR: 'it returns false'. Refute it at one input. -/
def weightGreaterWrong : ChangeSpec := { name := "weightGreater", fn := fun _ => fun
  | [d1, d2, d3] => { results := [.lit (.bool false)], args := [d1, d2, d3] }
  | _ => none }
def WeightGreaterWrongFalsely : Prop := weightGreaterRow.holds Try.pinned (OpenSpec.ofChange weightGreaterWrong)

/-- 'dwindlelaw07.WeightOrder': WHATEVER THE INPUT: true; the input reads as it did. -/
def weightOrderSpec : ChangeSpec := { name := "weightOrder", fn := fun _ => fun
  | [d1, d2] => { results := [.lit (.bool true)], args := [d1, d2] }
  | _ => none }
def weightOrderRow : OpenClaim := { program := "ytakpnikkcinckaa", sum := "f4506732f3b18fec547c80355149ba6092b15ee561f1e89b78f2cc1a34f5e442", func := "dwindle/dwindlelaw07.WeightOrder", spec := "weightOrder", inPlace := ["internal/bytealg.abigen_runtime_cmpstring"], unfollowed := true, recurses := true, loops := true, plainKeys := false, apart := false }
def WeightOrderSaid : Prop := weightOrderRow.holds Try.pinned (OpenSpec.ofChange weightOrderSpec)

/-- ITS FALSE NEIGHBOUR: 'it returns false'. Refute it at one input. -/
def weightOrderWrong : ChangeSpec := { name := "weightOrder", fn := fun _ => fun
  | [d1, d2] => { results := [.lit (.bool false)], args := [d1, d2] }
  | _ => none }
def WeightOrderWrongFalsely : Prop := weightOrderRow.holds Try.pinned (OpenSpec.ofChange weightOrderWrong)

/-- 'dwindlelaw07.WeightClosed': WHATEVER THE INPUT: true; the input reads as it did. -/
def weightClosedSpec : ChangeSpec := { name := "weightClosed", fn := fun _ => fun
  | [d1, d2, d3] => { results := [.lit (.bool true)], args := [d1, d2, d3] }
  | _ => none }
def weightClosedRow : OpenClaim := { program := "ytakpnikkcinckaa", sum := "f4506732f3b18fec547c80355149ba6092b15ee561f1e89b78f2cc1a34f5e442", func := "dwindle/dwindlelaw07.WeightClosed", spec := "weightClosed", inPlace := ["internal/bytealg.abigen_runtime_cmpstring"], unfollowed := true, recurses := true, loops := true, plainKeys := false, apart := false }
def WeightClosedSaid : Prop := weightClosedRow.holds Try.pinned (OpenSpec.ofChange weightClosedSpec)

/-- ITS FALSE NEIGHBOUR: 'it returns false'. Refute it at one input. -/
def weightClosedWrong : ChangeSpec := { name := "weightClosed", fn := fun _ => fun
  | [d1, d2, d3] => { results := [.lit (.bool false)], args := [d1, d2, d3] }
  | _ => none }
def WeightClosedWrongFalsely : Prop := weightClosedRow.holds Try.pinned (OpenSpec.ofChange weightClosedWrong)

/-- 'dwindlelaw07.WeightChecks': WHATEVER THE INPUT: true; the input reads as it did. -/
def weightChecksSpec : ChangeSpec := { name := "weightChecks", fn := fun _ => fun
  | [d1, d2, d3] => { results := [.lit (.bool true)], args := [d1, d2, d3] }
  | _ => none }
def weightChecksRow : OpenClaim := { program := "ytakpnikkcinckaa", sum := "f4506732f3b18fec547c80355149ba6092b15ee561f1e89b78f2cc1a34f5e442", func := "dwindle/dwindlelaw07.WeightChecks", spec := "weightChecks", inPlace := ["internal/bytealg.abigen_runtime_cmpstring"], unfollowed := true, recurses := true, loops := true, plainKeys := false, apart := false }
def WeightChecksSaid : Prop := weightChecksRow.holds Try.pinned (OpenSpec.ofChange weightChecksSpec)

/-- ITS FALSE NEIGHBOUR: 'it returns false'. Refute it at one input. -/
def weightChecksWrong : ChangeSpec := { name := "weightChecks", fn := fun _ => fun
  | [d1, d2, d3] => { results := [.lit (.bool false)], args := [d1, d2, d3] }
  | _ => none }
def WeightChecksWrongFalsely : Prop := weightChecksRow.holds Try.pinned (OpenSpec.ofChange weightChecksWrong)

/- THE SECOND FORM. 'bulk': how many values and letters a reading holds, each counted each time it is reached (what is shared counts as often as it is met; a slice's spare places count too). A statement '..UptoSaid' is the law's where the arguments, and the package variables that the reading takes, are together of bulk at most 1048576: NARROWER than '..Said'. Prove '..Said' where nothing that the law and all that it calls make is longer than what came in: it says more and counts as full. Else prove '..UptoSaid'. A law counts once. -/
mutual
def uptoBulk {H : Type} : DataW H → Nat
  | .lit (.string bytes) => bytes.length + 1
  | .lit _ => 1
  | .nil => 1
  | .ptr d => uptoBulk d + 1
  | .slice elems spare => uptoBulkAll elems + uptoBulkAll spare + 1
  | .agg parts => uptoBulkAll parts + 1
  | .iface _ d => uptoBulk d + 1
  | .map entries => uptoBulkEntries entries + 1
  | .held _ => 1
def uptoBulkAll {H : Type} : List (DataW H) → Nat
  | [] => 0
  | d :: r => uptoBulk d + uptoBulkAll r
def uptoBulkEntries {H : Type} : List (Lit × DataW H) → Nat
  | [] => 0
  | x :: r => uptoBulkEntry x + uptoBulkEntries r
def uptoBulkEntry {H : Type} : Lit × DataW H → Nat
  | (.string bytes, d) => bytes.length + uptoBulk d + 1
  | (_, d) => uptoBulk d + 1
 end
def uptoSmall : (H : Type) → List (DataW H) → Bool := fun _ ds => decide (uptoBulkAll ds ≤ 1048576)
def OpenSpec.upto (s : _root_.Go.ChangeSpec) : _root_.Go.OpenSpec := { _root_.Go.OpenSpec.ofChange s with cond := some uptoSmall }

/-- 'dwindlelaw07.WeightGreater', WHERE WHAT IT READS IS OF BULK AT MOST 1048576: true; the input reads as it did. -/
def weightGreaterUptoRow : OpenClaim := { program := "ytakpnikkcinckaa", sum := "f4506732f3b18fec547c80355149ba6092b15ee561f1e89b78f2cc1a34f5e442", func := "dwindle/dwindlelaw07.WeightGreater", spec := "weightGreater", inPlace := ["internal/bytealg.abigen_runtime_cmpstring"], unfollowed := true, recurses := true, loops := true, plainKeys := false, apart := false, narrowed := true }
def WeightGreaterUptoSaid : Prop := weightGreaterUptoRow.holds Try.pinned (OpenSpec.upto weightGreaterSpec)

/-- 'dwindlelaw07.WeightOrder', WHERE WHAT IT READS IS OF BULK AT MOST 1048576: true; the input reads as it did. -/
def weightOrderUptoRow : OpenClaim := { program := "ytakpnikkcinckaa", sum := "f4506732f3b18fec547c80355149ba6092b15ee561f1e89b78f2cc1a34f5e442", func := "dwindle/dwindlelaw07.WeightOrder", spec := "weightOrder", inPlace := ["internal/bytealg.abigen_runtime_cmpstring"], unfollowed := true, recurses := true, loops := true, plainKeys := false, apart := false, narrowed := true }
def WeightOrderUptoSaid : Prop := weightOrderUptoRow.holds Try.pinned (OpenSpec.upto weightOrderSpec)

/-- 'dwindlelaw07.WeightClosed', WHERE WHAT IT READS IS OF BULK AT MOST 1048576: true; the input reads as it did. -/
def weightClosedUptoRow : OpenClaim := { program := "ytakpnikkcinckaa", sum := "f4506732f3b18fec547c80355149ba6092b15ee561f1e89b78f2cc1a34f5e442", func := "dwindle/dwindlelaw07.WeightClosed", spec := "weightClosed", inPlace := ["internal/bytealg.abigen_runtime_cmpstring"], unfollowed := true, recurses := true, loops := true, plainKeys := false, apart := false, narrowed := true }
def WeightClosedUptoSaid : Prop := weightClosedUptoRow.holds Try.pinned (OpenSpec.upto weightClosedSpec)

/-- 'dwindlelaw07.WeightChecks', WHERE WHAT IT READS IS OF BULK AT MOST 1048576: true; the input reads as it did. -/
def weightChecksUptoRow : OpenClaim := { program := "ytakpnikkcinckaa", sum := "f4506732f3b18fec547c80355149ba6092b15ee561f1e89b78f2cc1a34f5e442", func := "dwindle/dwindlelaw07.WeightChecks", spec := "weightChecks", inPlace := ["internal/bytealg.abigen_runtime_cmpstring"], unfollowed := true, recurses := true, loops := true, plainKeys := false, apart := false, narrowed := true }
def WeightChecksUptoSaid : Prop := weightChecksUptoRow.holds Try.pinned (OpenSpec.upto weightChecksSpec)

end Rows
end Go.Proofs.Ytakpnikkcinckaa
