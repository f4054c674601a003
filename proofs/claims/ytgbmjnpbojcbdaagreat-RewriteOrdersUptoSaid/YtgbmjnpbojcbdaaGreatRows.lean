/-
  NARROWER THAN 'FOR EVERY INPUT', by the rows' own cells (each row's printed sentence says how): RewriteNormalizes: loops · RewriteRedexes: loops · RewriteClosed: loops · RewriteStrategies: loops · RewriteSteps: loops · RewriteOrders: loops · RewriteParallel: loops.
  DERIVED. THE GIVEN ROWS OF THIS SEAT. 7 by the template 'for every input the law returns true; each argument reads behind the call as it read before'; 0 by the template 'total and deterministic' (their statements: YtgbmjnpbojcbdaaGreatTotals.lean).
  GIVEN WITH THE SEED: the statements are not yours to turn. If you find one false, say at which input.
  Laid BY PROGRAM, IN A SANDBOX (cutbox-rows.mjs): the forced cells as the released guide's own fill.sh prints them over the translation ca5558091178cff0… (all of the seat's roots in one cut). By AI agents, Wed Nov 11 2026. No macro, syntax, notation, axiom, sorry.
-/
import Derived.Test.YtgbmjnpbojcbdaaGreatChecked
import GoSem.Claim
import GoSem.ClaimJoined
import GoSem.ClaimMapViews
import Derived.JoinedTies
import Derived.KernelRfl
namespace Go.Proofs.YtgbmjnpbojcbdaaGreat
/- THE CELL 'sum', in the pinned program and in every row, IS THE sha256 OF THE DUMP (.gsa) THAT YtgbmjnpbojcbdaaGreatProg.lean LOADS. Nothing in Lean hashes anything: it is a label: what it is worth is what the hold of that sum in a sandbox is worth. -/
noncomputable def Tryz.pinned : Pinned := { name := "ytgbmjnpbojcbdaagreat", sum := "ca5558091178cff04687a9b7bc539e05dd889bd921d7226e777e65a4758e64a2", checked := Tryz.checked }
namespace Rows
def none {H : Type} : Left H := { results := [], args := [] }

/-- 'dwindlelaw04.RewriteNormalizes': WHATEVER THE INPUT: true; the input reads as it did. -/
def rewriteNormalizesSpec : ChangeSpec := { name := "rewriteNormalizes", fn := fun _ => fun
  | [d1, d2, d3] => { results := [.lit (.bool true)], args := [d1, d2, d3] }
  | _ => none }
def rewriteNormalizesRow : OpenClaim := { program := "ytgbmjnpbojcbdaagreat", sum := "ca5558091178cff04687a9b7bc539e05dd889bd921d7226e777e65a4758e64a2", func := "dwindle/dwindlelaw04.RewriteNormalizes", spec := "rewriteNormalizes", inPlace := ["internal/bytealg.abigen_runtime_cmpstring", "slices.overlaps[dwindle/api.Bind]"], unfollowed := true, recurses := true, loops := true, apart := false }
def RewriteNormalizesSaid : Prop := rewriteNormalizesRow.holds Tryz.pinned (OpenSpec.ofChange rewriteNormalizesSpec)

/-- ITS FALSE NEIGHBOUR: 'it returns false'. Refute it at one input. -/
def rewriteNormalizesWrong : ChangeSpec := { name := "rewriteNormalizes", fn := fun _ => fun
  | [d1, d2, d3] => { results := [.lit (.bool false)], args := [d1, d2, d3] }
  | _ => none }
def RewriteNormalizesWrongFalsely : Prop := rewriteNormalizesRow.holds Tryz.pinned (OpenSpec.ofChange rewriteNormalizesWrong)

/-- 'dwindlelaw04.RewriteRedexes': WHATEVER THE INPUT: true; the input reads as it did. -/
def rewriteRedexesSpec : ChangeSpec := { name := "rewriteRedexes", fn := fun _ => fun
  | [d1, d2, d3] => { results := [.lit (.bool true)], args := [d1, d2, d3] }
  | _ => none }
def rewriteRedexesRow : OpenClaim := { program := "ytgbmjnpbojcbdaagreat", sum := "ca5558091178cff04687a9b7bc539e05dd889bd921d7226e777e65a4758e64a2", func := "dwindle/dwindlelaw04.RewriteRedexes", spec := "rewriteRedexes", inPlace := ["internal/bytealg.abigen_runtime_cmpstring", "slices.overlaps[dwindle/api.Bind]"], unfollowed := true, recurses := true, loops := true, apart := false }
def RewriteRedexesSaid : Prop := rewriteRedexesRow.holds Tryz.pinned (OpenSpec.ofChange rewriteRedexesSpec)

/-- ITS FALSE NEIGHBOUR: 'it returns false'. Refute it at one input. -/
def rewriteRedexesWrong : ChangeSpec := { name := "rewriteRedexes", fn := fun _ => fun
  | [d1, d2, d3] => { results := [.lit (.bool false)], args := [d1, d2, d3] }
  | _ => none }
def RewriteRedexesWrongFalsely : Prop := rewriteRedexesRow.holds Tryz.pinned (OpenSpec.ofChange rewriteRedexesWrong)

/-- 'dwindlelaw04.RewriteClosed': WHATEVER THE INPUT: true; the input reads as it did. -/
def rewriteClosedSpec : ChangeSpec := { name := "rewriteClosed", fn := fun _ => fun
  | [d1, d2, d3] => { results := [.lit (.bool true)], args := [d1, d2, d3] }
  | _ => none }
def rewriteClosedRow : OpenClaim := { program := "ytgbmjnpbojcbdaagreat", sum := "ca5558091178cff04687a9b7bc539e05dd889bd921d7226e777e65a4758e64a2", func := "dwindle/dwindlelaw04.RewriteClosed", spec := "rewriteClosed", inPlace := ["internal/bytealg.abigen_runtime_cmpstring", "slices.overlaps[dwindle/api.Bind]"], unfollowed := true, recurses := true, loops := true, apart := false }
def RewriteClosedSaid : Prop := rewriteClosedRow.holds Tryz.pinned (OpenSpec.ofChange rewriteClosedSpec)

/-- ITS FALSE NEIGHBOUR: 'it returns false'. Refute it at one input. -/
def rewriteClosedWrong : ChangeSpec := { name := "rewriteClosed", fn := fun _ => fun
  | [d1, d2, d3] => { results := [.lit (.bool false)], args := [d1, d2, d3] }
  | _ => none }
def RewriteClosedWrongFalsely : Prop := rewriteClosedRow.holds Tryz.pinned (OpenSpec.ofChange rewriteClosedWrong)

/-- 'dwindlelaw04.RewriteStrategies': WHATEVER THE INPUT: true; the input reads as it did. -/
def rewriteStrategiesSpec : ChangeSpec := { name := "rewriteStrategies", fn := fun _ => fun
  | [d1, d2] => { results := [.lit (.bool true)], args := [d1, d2] }
  | _ => none }
def rewriteStrategiesRow : OpenClaim := { program := "ytgbmjnpbojcbdaagreat", sum := "ca5558091178cff04687a9b7bc539e05dd889bd921d7226e777e65a4758e64a2", func := "dwindle/dwindlelaw04.RewriteStrategies", spec := "rewriteStrategies", inPlace := ["internal/bytealg.abigen_runtime_cmpstring", "slices.overlaps[dwindle/api.Bind]"], unfollowed := true, recurses := true, loops := true, apart := false }
def RewriteStrategiesSaid : Prop := rewriteStrategiesRow.holds Tryz.pinned (OpenSpec.ofChange rewriteStrategiesSpec)

/-- ITS FALSE NEIGHBOUR: 'it returns false'. Refute it at one input. -/
def rewriteStrategiesWrong : ChangeSpec := { name := "rewriteStrategies", fn := fun _ => fun
  | [d1, d2] => { results := [.lit (.bool false)], args := [d1, d2] }
  | _ => none }
def RewriteStrategiesWrongFalsely : Prop := rewriteStrategiesRow.holds Tryz.pinned (OpenSpec.ofChange rewriteStrategiesWrong)

/-- 'dwindlelaw04.RewriteSteps': WHATEVER THE INPUT: true; the input reads as it did. -/
def rewriteStepsSpec : ChangeSpec := { name := "rewriteSteps", fn := fun _ => fun
  | [d1, d2, d3] => { results := [.lit (.bool true)], args := [d1, d2, d3] }
  | _ => none }
def rewriteStepsRow : OpenClaim := { program := "ytgbmjnpbojcbdaagreat", sum := "ca5558091178cff04687a9b7bc539e05dd889bd921d7226e777e65a4758e64a2", func := "dwindle/dwindlelaw04.RewriteSteps", spec := "rewriteSteps", inPlace := ["internal/bytealg.abigen_runtime_cmpstring", "slices.overlaps[dwindle/api.Bind]"], unfollowed := true, recurses := true, loops := true, apart := false }
def RewriteStepsSaid : Prop := rewriteStepsRow.holds Tryz.pinned (OpenSpec.ofChange rewriteStepsSpec)

/-- ITS FALSE NEIGHBOUR: 'it returns false'. Refute it at one input. -/
def rewriteStepsWrong : ChangeSpec := { name := "rewriteSteps", fn := fun _ => fun
  | [d1, d2, d3] => { results := [.lit (.bool false)], args := [d1, d2, d3] }
  | _ => none }
def RewriteStepsWrongFalsely : Prop := rewriteStepsRow.holds Tryz.pinned (OpenSpec.ofChange rewriteStepsWrong)

/-- 'dwindlelaw04.RewriteOrders': WHATEVER THE INPUT: true; the input reads as it did. -/
def rewriteOrdersSpec : ChangeSpec := { name := "rewriteOrders", fn := fun _ => fun
  | [d1, d2, d3] => { results := [.lit (.bool true)], args := [d1, d2, d3] }
  | _ => none }
def rewriteOrdersRow : OpenClaim := { program := "ytgbmjnpbojcbdaagreat", sum := "ca5558091178cff04687a9b7bc539e05dd889bd921d7226e777e65a4758e64a2", func := "dwindle/dwindlelaw04.RewriteOrders", spec := "rewriteOrders", inPlace := ["internal/bytealg.abigen_runtime_cmpstring", "slices.overlaps[dwindle/api.Bind]"], unfollowed := true, recurses := true, loops := true, apart := false }
def RewriteOrdersSaid : Prop := rewriteOrdersRow.holds Tryz.pinned (OpenSpec.ofChange rewriteOrdersSpec)

/-- ITS FALSE NEIGHBOUR: 'it returns false'. Refute it at one input. -/
def rewriteOrdersWrong : ChangeSpec := { name := "rewriteOrders", fn := fun _ => fun
  | [d1, d2, d3] => { results := [.lit (.bool false)], args := [d1, d2, d3] }
  | _ => none }
def RewriteOrdersWrongFalsely : Prop := rewriteOrdersRow.holds Tryz.pinned (OpenSpec.ofChange rewriteOrdersWrong)

/-- 'dwindlelaw04.RewriteParallel': WHATEVER THE INPUT: true; the input reads as it did. -/
def rewriteParallelSpec : ChangeSpec := { name := "rewriteParallel", fn := fun _ => fun
  | [d1, d2, d3] => { results := [.lit (.bool true)], args := [d1, d2, d3] }
  | _ => none }
def rewriteParallelRow : OpenClaim := { program := "ytgbmjnpbojcbdaagreat", sum := "ca5558091178cff04687a9b7bc539e05dd889bd921d7226e777e65a4758e64a2", func := "dwindle/dwindlelaw04.RewriteParallel", spec := "rewriteParallel", inPlace := ["internal/bytealg.abigen_runtime_cmpstring", "slices.overlaps[dwindle/api.Bind]"], unfollowed := true, recurses := true, loops := true, apart := false }
def RewriteParallelSaid : Prop := rewriteParallelRow.holds Tryz.pinned (OpenSpec.ofChange rewriteParallelSpec)

/-- ITS FALSE NEIGHBOUR: 'it returns false'. Refute it at one input. -/
def rewriteParallelWrong : ChangeSpec := { name := "rewriteParallel", fn := fun _ => fun
  | [d1, d2, d3] => { results := [.lit (.bool false)], args := [d1, d2, d3] }
  | _ => none }
def RewriteParallelWrongFalsely : Prop := rewriteParallelRow.holds Tryz.pinned (OpenSpec.ofChange rewriteParallelWrong)

/- THE SECOND FORM. 'bulk': how many values and letters a reading holds, each counted each time it is reached (what is shared counts as often as it is met; a slice's spare places count too). A statement '..UptoSaid' is the law's where the arguments, and the package variables that the reading takes, are together of bulk at most 1048576: NARROWER than '..Said'. Prove '..Said' where nothing that the law and all that it calls make is longer than what came in: it says more and counts as full. Else prove '..UptoSaid'. A law counts once. -/
mutual
def uptoBulk {H : Type} : DataW H → Nat
  | .lit (.string bytes) => bytes.length + 1
  | .lit _ => 1
  | .nil => 1
  | .ptr d => uptoBulk d + 1
  | .slice elems spare => uptoBulkAll elems + uptoBulkAll spare + 1
  | .agg parts => uptoBulkAll parts + 1
  | .iface _ d => uptoBulk d + 1
  | .map entries => uptoBulkEntries entries + 1
  | .held _ => 1
def uptoBulkAll {H : Type} : List (DataW H) → Nat
  | [] => 0
  | d :: r => uptoBulk d + uptoBulkAll r
def uptoBulkEntries {H : Type} : List (Lit × DataW H) → Nat
  | [] => 0
  | x :: r => uptoBulkEntry x + uptoBulkEntries r
def uptoBulkEntry {H : Type} : Lit × DataW H → Nat
  | (.string bytes, d) => bytes.length + uptoBulk d + 1
  | (_, d) => uptoBulk d + 1
 end
def uptoSmall : (H : Type) → List (DataW H) → Bool := fun _ ds => decide (uptoBulkAll ds ≤ 1048576)
def OpenSpec.upto (s : _root_.Go.ChangeSpec) : _root_.Go.OpenSpec := { _root_.Go.OpenSpec.ofChange s with cond := some uptoSmall }

/-- 'dwindlelaw04.RewriteNormalizes', WHERE WHAT IT READS IS OF BULK AT MOST 1048576: true; the input reads as it did. -/
def rewriteNormalizesUptoRow : OpenClaim := { program := "ytgbmjnpbojcbdaagreat", sum := "ca5558091178cff04687a9b7bc539e05dd889bd921d7226e777e65a4758e64a2", func := "dwindle/dwindlelaw04.RewriteNormalizes", spec := "rewriteNormalizes", inPlace := ["internal/bytealg.abigen_runtime_cmpstring", "slices.overlaps[dwindle/api.Bind]"], unfollowed := true, recurses := true, loops := true, apart := false, narrowed := true }
def RewriteNormalizesUptoSaid : Prop := rewriteNormalizesUptoRow.holds Tryz.pinned (OpenSpec.upto rewriteNormalizesSpec)

/-- 'dwindlelaw04.RewriteRedexes', WHERE WHAT IT READS IS OF BULK AT MOST 1048576: true; the input reads as it did. -/
def rewriteRedexesUptoRow : OpenClaim := { program := "ytgbmjnpbojcbdaagreat", sum := "ca5558091178cff04687a9b7bc539e05dd889bd921d7226e777e65a4758e64a2", func := "dwindle/dwindlelaw04.RewriteRedexes", spec := "rewriteRedexes", inPlace := ["internal/bytealg.abigen_runtime_cmpstring", "slices.overlaps[dwindle/api.Bind]"], unfollowed := true, recurses := true, loops := true, apart := false, narrowed := true }
def RewriteRedexesUptoSaid : Prop := rewriteRedexesUptoRow.holds Tryz.pinned (OpenSpec.upto rewriteRedexesSpec)

/-- 'dwindlelaw04.RewriteClosed', WHERE WHAT IT READS IS OF BULK AT MOST 1048576: true; the input reads as it did. -/
def rewriteClosedUptoRow : OpenClaim := { program := "ytgbmjnpbojcbdaagreat", sum := "ca5558091178cff04687a9b7bc539e05dd889bd921d7226e777e65a4758e64a2", func := "dwindle/dwindlelaw04.RewriteClosed", spec := "rewriteClosed", inPlace := ["internal/bytealg.abigen_runtime_cmpstring", "slices.overlaps[dwindle/api.Bind]"], unfollowed := true, recurses := true, loops := true, apart := false, narrowed := true }
def RewriteClosedUptoSaid : Prop := rewriteClosedUptoRow.holds Tryz.pinned (OpenSpec.upto rewriteClosedSpec)

/-- 'dwindlelaw04.RewriteStrategies', WHERE WHAT IT READS IS OF BULK AT MOST 1048576: true; the input reads as it did. -/
def rewriteStrategiesUptoRow : OpenClaim := { program := "ytgbmjnpbojcbdaagreat", sum := "ca5558091178cff04687a9b7bc539e05dd889bd921d7226e777e65a4758e64a2", func := "dwindle/dwindlelaw04.RewriteStrategies", spec := "rewriteStrategies", inPlace := ["internal/bytealg.abigen_runtime_cmpstring", "slices.overlaps[dwindle/api.Bind]"], unfollowed := true, recurses := true, loops := true, apart := false, narrowed := true }
def RewriteStrategiesUptoSaid : Prop := rewriteStrategiesUptoRow.holds Tryz.pinned (OpenSpec.upto rewriteStrategiesSpec)

/-- 'dwindlelaw04.RewriteSteps', WHERE WHAT IT READS IS OF BULK AT MOST 1048576: true; the input reads as it did. -/
def rewriteStepsUptoRow : OpenClaim := { program := "ytgbmjnpbojcbdaagreat", sum := "ca5558091178cff04687a9b7bc539e05dd889bd921d7226e777e65a4758e64a2", func := "dwindle/dwindlelaw04.RewriteSteps", spec := "rewriteSteps", inPlace := ["internal/bytealg.abigen_runtime_cmpstring", "slices.overlaps[dwindle/api.Bind]"], unfollowed := true, recurses := true, loops := true, apart := false, narrowed := true }
def RewriteStepsUptoSaid : Prop := rewriteStepsUptoRow.holds Tryz.pinned (OpenSpec.upto rewriteStepsSpec)

/-- 'dwindlelaw04.RewriteOrders', WHERE WHAT IT READS IS OF BULK AT MOST 1048576: true; the input reads as it did. -/
def rewriteOrdersUptoRow : OpenClaim := { program := "ytgbmjnpbojcbdaagreat", sum := "ca5558091178cff04687a9b7bc539e05dd889bd921d7226e777e65a4758e64a2", func := "dwindle/dwindlelaw04.RewriteOrders", spec := "rewriteOrders", inPlace := ["internal/bytealg.abigen_runtime_cmpstring", "slices.overlaps[dwindle/api.Bind]"], unfollowed := true, recurses := true, loops := true, apart := false, narrowed := true }
def RewriteOrdersUptoSaid : Prop := rewriteOrdersUptoRow.holds Tryz.pinned (OpenSpec.upto rewriteOrdersSpec)

/-- 'dwindlelaw04.RewriteParallel', WHERE WHAT IT READS IS OF BULK AT MOST 1048576: true; the input reads as it did. -/
def rewriteParallelUptoRow : OpenClaim := { program := "ytgbmjnpbojcbdaagreat", sum := "ca5558091178cff04687a9b7bc539e05dd889bd921d7226e777e65a4758e64a2", func := "dwindle/dwindlelaw04.RewriteParallel", spec := "rewriteParallel", inPlace := ["internal/bytealg.abigen_runtime_cmpstring", "slices.overlaps[dwindle/api.Bind]"], unfollowed := true, recurses := true, loops := true, apart := false, narrowed := true }
def RewriteParallelUptoSaid : Prop := rewriteParallelUptoRow.holds Tryz.pinned (OpenSpec.upto rewriteParallelSpec)

end Rows
end Go.Proofs.YtgbmjnpbojcbdaaGreat
