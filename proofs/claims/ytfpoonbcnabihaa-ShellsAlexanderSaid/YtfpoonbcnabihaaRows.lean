/-
  No cell of these rows narrows 'for every input' (looked for: loops, veiled, ifaces, maps, wideKeys, modest, calm, conditions, laid).
  DERIVED. THE GIVEN ROWS OF THIS SEAT. 11 by the template 'for every input the law returns true; each argument reads behind the call as it read before'; 0 by the template 'total and deterministic' (their statements: YtfpoonbcnabihaaTotals.lean).
  GIVEN WITH THE SEED: the statements are not yours to turn. If you find one false, say at which input.
  Laid BY PROGRAM, IN A SANDBOX (cutbox-rows.mjs): the forced cells as the released guide's own fill.sh prints them over the translation 58149b04f899c15a… (all of the seat's roots in one cut). By AI agents, Wed Nov 11 2026. No macro, syntax, notation, axiom, sorry.
-/
import Derived.Test.YtfpoonbcnabihaaChecked
import GoSem.Claim
import GoSem.ClaimJoined
import GoSem.ClaimMapViews
import Derived.JoinedTies
import Derived.KernelRfl
namespace Go.Proofs.Ytfpoonbcnabihaa
/- THE CELL 'sum', in the pinned program and in every row, IS THE sha256 OF THE DUMP (.gsa) THAT YtfpoonbcnabihaaProg.lean LOADS. Nothing in Lean hashes anything: it is a label: what it is worth is what the hold of that sum in a sandbox is worth. -/
noncomputable def Try.pinned : Pinned := { name := "ytfpoonbcnabihaa", sum := "58149b04f899c15a3e7fb2da55bcff436498fe723cc67ce24e20611ab78c7159", checked := Try.checked }
namespace Rows
def none {H : Type} : Left H := { results := [], args := [] }

/-- 'girouettelaw01.ShellsShells': WHATEVER THE INPUT: true; the input reads as it did. -/
def shellsShellsSpec : ChangeSpec := { name := "shellsShells", fn := fun _ => fun
  | [d1, d2] => { results := [.lit (.bool true)], args := [d1, d2] }
  | _ => none }
def shellsShellsRow : OpenClaim := { program := "ytfpoonbcnabihaa", sum := "58149b04f899c15a3e7fb2da55bcff436498fe723cc67ce24e20611ab78c7159", func := "girouette/girouettelaw01.ShellsShells", spec := "shellsShells", unfollowed := true, recurses := true, plainKeys := false, apart := false }
def ShellsShellsSaid : Prop := shellsShellsRow.holds Try.pinned (OpenSpec.ofChange shellsShellsSpec)

/-- ITS FALSE NEIGHBOUR: 'it returns false'. Refute it at one input. -/
def shellsShellsWrong : ChangeSpec := { name := "shellsShells", fn := fun _ => fun
  | [d1, d2] => { results := [.lit (.bool false)], args := [d1, d2] }
  | _ => none }
def ShellsShellsWrongFalsely : Prop := shellsShellsRow.holds Try.pinned (OpenSpec.ofChange shellsShellsWrong)

/-- 'girouettelaw01.ShellsMakes': WHATEVER THE INPUT: true; the input reads as it did. -/
def shellsMakesSpec : ChangeSpec := { name := "shellsMakes", fn := fun _ => fun
  | [d1, d2, d3] => { results := [.lit (.bool true)], args := [d1, d2, d3] }
  | _ => none }
def shellsMakesRow : OpenClaim := { program := "ytfpoonbcnabihaa", sum := "58149b04f899c15a3e7fb2da55bcff436498fe723cc67ce24e20611ab78c7159", func := "girouette/girouettelaw01.ShellsMakes", spec := "shellsMakes", unfollowed := true, recurses := true, plainKeys := false, apart := false }
def ShellsMakesSaid : Prop := shellsMakesRow.holds Try.pinned (OpenSpec.ofChange shellsMakesSpec)

/-- ITS FALSE NEIGHBOUR: 'it returns false'. Refute it at one input. -/
def shellsMakesWrong : ChangeSpec := { name := "shellsMakes", fn := fun _ => fun
  | [d1, d2, d3] => { results := [.lit (.bool false)], args := [d1, d2, d3] }
  | _ => none }
def ShellsMakesWrongFalsely : Prop := shellsMakesRow.holds Try.pinned (OpenSpec.ofChange shellsMakesWrong)

/-- 'girouettelaw01.ShellsMoments': WHATEVER THE INPUT: true; the input reads as it did. -/
def shellsMomentsSpec : ChangeSpec := { name := "shellsMoments", fn := fun _ => fun
  | [d1, d2] => { results := [.lit (.bool true)], args := [d1, d2] }
  | _ => none }
def shellsMomentsRow : OpenClaim := { program := "ytfpoonbcnabihaa", sum := "58149b04f899c15a3e7fb2da55bcff436498fe723cc67ce24e20611ab78c7159", func := "girouette/girouettelaw01.ShellsMoments", spec := "shellsMoments", unfollowed := true, recurses := true, plainKeys := false, apart := false }
def ShellsMomentsSaid : Prop := shellsMomentsRow.holds Try.pinned (OpenSpec.ofChange shellsMomentsSpec)

/-- ITS FALSE NEIGHBOUR: 'it returns false'. Refute it at one input. -/
def shellsMomentsWrong : ChangeSpec := { name := "shellsMoments", fn := fun _ => fun
  | [d1, d2] => { results := [.lit (.bool false)], args := [d1, d2] }
  | _ => none }
def ShellsMomentsWrongFalsely : Prop := shellsMomentsRow.holds Try.pinned (OpenSpec.ofChange shellsMomentsWrong)

/-- 'girouettelaw01.ShellsHollows': WHATEVER THE INPUT: true; the input reads as it did. -/
def shellsHollowsSpec : ChangeSpec := { name := "shellsHollows", fn := fun _ => fun
  | [d1, d2, d3] => { results := [.lit (.bool true)], args := [d1, d2, d3] }
  | _ => none }
def shellsHollowsRow : OpenClaim := { program := "ytfpoonbcnabihaa", sum := "58149b04f899c15a3e7fb2da55bcff436498fe723cc67ce24e20611ab78c7159", func := "girouette/girouettelaw01.ShellsHollows", spec := "shellsHollows", unfollowed := true, recurses := true, plainKeys := false, apart := false }
def ShellsHollowsSaid : Prop := shellsHollowsRow.holds Try.pinned (OpenSpec.ofChange shellsHollowsSpec)

/-- ITS FALSE NEIGHBOUR: 'it returns false'. Refute it at one input. -/
def shellsHollowsWrong : ChangeSpec := { name := "shellsHollows", fn := fun _ => fun
  | [d1, d2, d3] => { results := [.lit (.bool false)], args := [d1, d2, d3] }
  | _ => none }
def ShellsHollowsWrongFalsely : Prop := shellsHollowsRow.holds Try.pinned (OpenSpec.ofChange shellsHollowsWrong)

/-- 'girouettelaw01.ShellsCounts': WHATEVER THE INPUT: true; the input reads as it did. -/
def shellsCountsSpec : ChangeSpec := { name := "shellsCounts", fn := fun _ => fun
  | [d1, d2] => { results := [.lit (.bool true)], args := [d1, d2] }
  | _ => none }
def shellsCountsRow : OpenClaim := { program := "ytfpoonbcnabihaa", sum := "58149b04f899c15a3e7fb2da55bcff436498fe723cc67ce24e20611ab78c7159", func := "girouette/girouettelaw01.ShellsCounts", spec := "shellsCounts", unfollowed := true, recurses := true, plainKeys := false, apart := false }
def ShellsCountsSaid : Prop := shellsCountsRow.holds Try.pinned (OpenSpec.ofChange shellsCountsSpec)

/-- ITS FALSE NEIGHBOUR: 'it returns false'. Refute it at one input. -/
def shellsCountsWrong : ChangeSpec := { name := "shellsCounts", fn := fun _ => fun
  | [d1, d2] => { results := [.lit (.bool false)], args := [d1, d2] }
  | _ => none }
def ShellsCountsWrongFalsely : Prop := shellsCountsRow.holds Try.pinned (OpenSpec.ofChange shellsCountsWrong)

/-- 'girouettelaw01.ShellsOwn': WHATEVER THE INPUT: true; the input reads as it did. -/
def shellsOwnSpec : ChangeSpec := { name := "shellsOwn", fn := fun _ => fun
  | [d1, d2] => { results := [.lit (.bool true)], args := [d1, d2] }
  | _ => none }
def shellsOwnRow : OpenClaim := { program := "ytfpoonbcnabihaa", sum := "58149b04f899c15a3e7fb2da55bcff436498fe723cc67ce24e20611ab78c7159", func := "girouette/girouettelaw01.ShellsOwn", spec := "shellsOwn", unfollowed := true, recurses := true, plainKeys := false, apart := false }
def ShellsOwnSaid : Prop := shellsOwnRow.holds Try.pinned (OpenSpec.ofChange shellsOwnSpec)

/-- ITS FALSE NEIGHBOUR: 'it returns false'. Refute it at one input. -/
def shellsOwnWrong : ChangeSpec := { name := "shellsOwn", fn := fun _ => fun
  | [d1, d2] => { results := [.lit (.bool false)], args := [d1, d2] }
  | _ => none }
def ShellsOwnWrongFalsely : Prop := shellsOwnRow.holds Try.pinned (OpenSpec.ofChange shellsOwnWrong)

/-- 'girouettelaw01.ShellsMcMullen': WHATEVER THE INPUT: true; the input reads as it did. -/
def shellsMcMullenSpec : ChangeSpec := { name := "shellsMcMullen", fn := fun _ => fun
  | [d1, d2] => { results := [.lit (.bool true)], args := [d1, d2] }
  | _ => none }
def shellsMcMullenRow : OpenClaim := { program := "ytfpoonbcnabihaa", sum := "58149b04f899c15a3e7fb2da55bcff436498fe723cc67ce24e20611ab78c7159", func := "girouette/girouettelaw01.ShellsMcMullen", spec := "shellsMcMullen", unfollowed := true, recurses := true, plainKeys := false, apart := false }
def ShellsMcMullenSaid : Prop := shellsMcMullenRow.holds Try.pinned (OpenSpec.ofChange shellsMcMullenSpec)

/-- ITS FALSE NEIGHBOUR: 'it returns false'. Refute it at one input. -/
def shellsMcMullenWrong : ChangeSpec := { name := "shellsMcMullen", fn := fun _ => fun
  | [d1, d2] => { results := [.lit (.bool false)], args := [d1, d2] }
  | _ => none }
def ShellsMcMullenWrongFalsely : Prop := shellsMcMullenRow.holds Try.pinned (OpenSpec.ofChange shellsMcMullenWrong)

/-- 'girouettelaw01.ShellsOrders': WHATEVER THE INPUT: true; the input reads as it did. -/
def shellsOrdersSpec : ChangeSpec := { name := "shellsOrders", fn := fun _ => fun
  | [d1, d2, d3] => { results := [.lit (.bool true)], args := [d1, d2, d3] }
  | _ => none }
def shellsOrdersRow : OpenClaim := { program := "ytfpoonbcnabihaa", sum := "58149b04f899c15a3e7fb2da55bcff436498fe723cc67ce24e20611ab78c7159", func := "girouette/girouettelaw01.ShellsOrders", spec := "shellsOrders", unfollowed := true, recurses := true, plainKeys := false, apart := false }
def ShellsOrdersSaid : Prop := shellsOrdersRow.holds Try.pinned (OpenSpec.ofChange shellsOrdersSpec)

/-- ITS FALSE NEIGHBOUR: 'it returns false'. Refute it at one input. -/
def shellsOrdersWrong : ChangeSpec := { name := "shellsOrders", fn := fun _ => fun
  | [d1, d2, d3] => { results := [.lit (.bool false)], args := [d1, d2, d3] }
  | _ => none }
def ShellsOrdersWrongFalsely : Prop := shellsOrdersRow.holds Try.pinned (OpenSpec.ofChange shellsOrdersWrong)

/-- 'girouettelaw01.ShellsCollapses': WHATEVER THE INPUT: true; the input reads as it did. -/
def shellsCollapsesSpec : ChangeSpec := { name := "shellsCollapses", fn := fun _ => fun
  | [d1, d2, d3] => { results := [.lit (.bool true)], args := [d1, d2, d3] }
  | _ => none }
def shellsCollapsesRow : OpenClaim := { program := "ytfpoonbcnabihaa", sum := "58149b04f899c15a3e7fb2da55bcff436498fe723cc67ce24e20611ab78c7159", func := "girouette/girouettelaw01.ShellsCollapses", spec := "shellsCollapses", unfollowed := true, recurses := true, plainKeys := false, apart := false }
def ShellsCollapsesSaid : Prop := shellsCollapsesRow.holds Try.pinned (OpenSpec.ofChange shellsCollapsesSpec)

/-- ITS FALSE NEIGHBOUR: 'it returns false'. Refute it at one input. -/
def shellsCollapsesWrong : ChangeSpec := { name := "shellsCollapses", fn := fun _ => fun
  | [d1, d2, d3] => { results := [.lit (.bool false)], args := [d1, d2, d3] }
  | _ => none }
def ShellsCollapsesWrongFalsely : Prop := shellsCollapsesRow.holds Try.pinned (OpenSpec.ofChange shellsCollapsesWrong)

/-- 'girouettelaw01.ShellsAlexander': WHATEVER THE INPUT: true; the input reads as it did. -/
def shellsAlexanderSpec : ChangeSpec := { name := "shellsAlexander", fn := fun _ => fun
  | [d1, d2] => { results := [.lit (.bool true)], args := [d1, d2] }
  | _ => none }
def shellsAlexanderRow : OpenClaim := { program := "ytfpoonbcnabihaa", sum := "58149b04f899c15a3e7fb2da55bcff436498fe723cc67ce24e20611ab78c7159", func := "girouette/girouettelaw01.ShellsAlexander", spec := "shellsAlexander", unfollowed := true, recurses := true, plainKeys := false, apart := false }
def ShellsAlexanderSaid : Prop := shellsAlexanderRow.holds Try.pinned (OpenSpec.ofChange shellsAlexanderSpec)

/-- ITS FALSE NEIGHBOUR: 'it returns false'. Refute it at one input. -/
def shellsAlexanderWrong : ChangeSpec := { name := "shellsAlexander", fn := fun _ => fun
  | [d1, d2] => { results := [.lit (.bool false)], args := [d1, d2] }
  | _ => none }
def ShellsAlexanderWrongFalsely : Prop := shellsAlexanderRow.holds Try.pinned (OpenSpec.ofChange shellsAlexanderWrong)

/-- 'girouettelaw01.ShellsChecks': WHATEVER THE INPUT: true; the input reads as it did. -/
def shellsChecksSpec : ChangeSpec := { name := "shellsChecks", fn := fun _ => fun
  | [d1, d2] => { results := [.lit (.bool true)], args := [d1, d2] }
  | _ => none }
def shellsChecksRow : OpenClaim := { program := "ytfpoonbcnabihaa", sum := "58149b04f899c15a3e7fb2da55bcff436498fe723cc67ce24e20611ab78c7159", func := "girouette/girouettelaw01.ShellsChecks", spec := "shellsChecks", unfollowed := true, recurses := true, plainKeys := false, apart := false }
def ShellsChecksSaid : Prop := shellsChecksRow.holds Try.pinned (OpenSpec.ofChange shellsChecksSpec)

/-- ITS FALSE NEIGHBOUR: 'it returns false'. Refute it at one input. -/
def shellsChecksWrong : ChangeSpec := { name := "shellsChecks", fn := fun _ => fun
  | [d1, d2] => { results := [.lit (.bool false)], args := [d1, d2] }
  | _ => none }
def ShellsChecksWrongFalsely : Prop := shellsChecksRow.holds Try.pinned (OpenSpec.ofChange shellsChecksWrong)

/- THE SECOND FORM. 'bulk': how many values and letters a reading holds, each counted each time it is reached (what is shared counts as often as it is met; a slice's spare places count too). A statement '..UptoSaid' is the law's where the arguments, and the package variables that the reading takes, are together of bulk at most 1048576: NARROWER than '..Said'. Prove '..Said' where nothing that the law and all that it calls make is longer than what came in: it says more and counts as full. Else prove '..UptoSaid'. A law counts once. -/
mutual
def uptoBulk {H : Type} : DataW H → Nat
  | .lit (.string bytes) => bytes.length + 1
  | .lit _ => 1
  | .nil => 1
  | .ptr d => uptoBulk d + 1
  | .slice elems spare => uptoBulkAll elems + uptoBulkAll spare + 1
  | .agg parts => uptoBulkAll parts + 1
  | .iface _ d => uptoBulk d + 1
  | .map entries => uptoBulkEntries entries + 1
  | .held _ => 1
def uptoBulkAll {H : Type} : List (DataW H) → Nat
  | [] => 0
  | d :: r => uptoBulk d + uptoBulkAll r
def uptoBulkEntries {H : Type} : List (Lit × DataW H) → Nat
  | [] => 0
  | x :: r => uptoBulkEntry x + uptoBulkEntries r
def uptoBulkEntry {H : Type} : Lit × DataW H → Nat
  | (.string bytes, d) => bytes.length + uptoBulk d + 1
  | (_, d) => uptoBulk d + 1
 end
def uptoSmall : (H : Type) → List (DataW H) → Bool := fun _ ds => decide (uptoBulkAll ds ≤ 1048576)
def OpenSpec.upto (s : _root_.Go.ChangeSpec) : _root_.Go.OpenSpec := { _root_.Go.OpenSpec.ofChange s with cond := some uptoSmall }

/-- 'girouettelaw01.ShellsShells', WHERE WHAT IT READS IS OF BULK AT MOST 1048576: true; the input reads as it did. -/
def shellsShellsUptoRow : OpenClaim := { program := "ytfpoonbcnabihaa", sum := "58149b04f899c15a3e7fb2da55bcff436498fe723cc67ce24e20611ab78c7159", func := "girouette/girouettelaw01.ShellsShells", spec := "shellsShells", unfollowed := true, recurses := true, plainKeys := false, apart := false, narrowed := true }
def ShellsShellsUptoSaid : Prop := shellsShellsUptoRow.holds Try.pinned (OpenSpec.upto shellsShellsSpec)

/-- 'girouettelaw01.ShellsMakes', WHERE WHAT IT READS IS OF BULK AT MOST 1048576: true; the input reads as it did. -/
def shellsMakesUptoRow : OpenClaim := { program := "ytfpoonbcnabihaa", sum := "58149b04f899c15a3e7fb2da55bcff436498fe723cc67ce24e20611ab78c7159", func := "girouette/girouettelaw01.ShellsMakes", spec := "shellsMakes", unfollowed := true, recurses := true, plainKeys := false, apart := false, narrowed := true }
def ShellsMakesUptoSaid : Prop := shellsMakesUptoRow.holds Try.pinned (OpenSpec.upto shellsMakesSpec)

/-- 'girouettelaw01.ShellsMoments', WHERE WHAT IT READS IS OF BULK AT MOST 1048576: true; the input reads as it did. -/
def shellsMomentsUptoRow : OpenClaim := { program := "ytfpoonbcnabihaa", sum := "58149b04f899c15a3e7fb2da55bcff436498fe723cc67ce24e20611ab78c7159", func := "girouette/girouettelaw01.ShellsMoments", spec := "shellsMoments", unfollowed := true, recurses := true, plainKeys := false, apart := false, narrowed := true }
def ShellsMomentsUptoSaid : Prop := shellsMomentsUptoRow.holds Try.pinned (OpenSpec.upto shellsMomentsSpec)

/-- 'girouettelaw01.ShellsHollows', WHERE WHAT IT READS IS OF BULK AT MOST 1048576: true; the input reads as it did. -/
def shellsHollowsUptoRow : OpenClaim := { program := "ytfpoonbcnabihaa", sum := "58149b04f899c15a3e7fb2da55bcff436498fe723cc67ce24e20611ab78c7159", func := "girouette/girouettelaw01.ShellsHollows", spec := "shellsHollows", unfollowed := true, recurses := true, plainKeys := false, apart := false, narrowed := true }
def ShellsHollowsUptoSaid : Prop := shellsHollowsUptoRow.holds Try.pinned (OpenSpec.upto shellsHollowsSpec)

/-- 'girouettelaw01.ShellsCounts', WHERE WHAT IT READS IS OF BULK AT MOST 1048576: true; the input reads as it did. -/
def shellsCountsUptoRow : OpenClaim := { program := "ytfpoonbcnabihaa", sum := "58149b04f899c15a3e7fb2da55bcff436498fe723cc67ce24e20611ab78c7159", func := "girouette/girouettelaw01.ShellsCounts", spec := "shellsCounts", unfollowed := true, recurses := true, plainKeys := false, apart := false, narrowed := true }
def ShellsCountsUptoSaid : Prop := shellsCountsUptoRow.holds Try.pinned (OpenSpec.upto shellsCountsSpec)

/-- 'girouettelaw01.ShellsOwn', WHERE WHAT IT READS IS OF BULK AT MOST 1048576: true; the input reads as it did. -/
def shellsOwnUptoRow : OpenClaim := { program := "ytfpoonbcnabihaa", sum := "58149b04f899c15a3e7fb2da55bcff436498fe723cc67ce24e20611ab78c7159", func := "girouette/girouettelaw01.ShellsOwn", spec := "shellsOwn", unfollowed := true, recurses := true, plainKeys := false, apart := false, narrowed := true }
def ShellsOwnUptoSaid : Prop := shellsOwnUptoRow.holds Try.pinned (OpenSpec.upto shellsOwnSpec)

/-- 'girouettelaw01.ShellsMcMullen', WHERE WHAT IT READS IS OF BULK AT MOST 1048576: true; the input reads as it did. -/
def shellsMcMullenUptoRow : OpenClaim := { program := "ytfpoonbcnabihaa", sum := "58149b04f899c15a3e7fb2da55bcff436498fe723cc67ce24e20611ab78c7159", func := "girouette/girouettelaw01.ShellsMcMullen", spec := "shellsMcMullen", unfollowed := true, recurses := true, plainKeys := false, apart := false, narrowed := true }
def ShellsMcMullenUptoSaid : Prop := shellsMcMullenUptoRow.holds Try.pinned (OpenSpec.upto shellsMcMullenSpec)

/-- 'girouettelaw01.ShellsOrders', WHERE WHAT IT READS IS OF BULK AT MOST 1048576: true; the input reads as it did. -/
def shellsOrdersUptoRow : OpenClaim := { program := "ytfpoonbcnabihaa", sum := "58149b04f899c15a3e7fb2da55bcff436498fe723cc67ce24e20611ab78c7159", func := "girouette/girouettelaw01.ShellsOrders", spec := "shellsOrders", unfollowed := true, recurses := true, plainKeys := false, apart := false, narrowed := true }
def ShellsOrdersUptoSaid : Prop := shellsOrdersUptoRow.holds Try.pinned (OpenSpec.upto shellsOrdersSpec)

/-- 'girouettelaw01.ShellsCollapses', WHERE WHAT IT READS IS OF BULK AT MOST 1048576: true; the input reads as it did. -/
def shellsCollapsesUptoRow : OpenClaim := { program := "ytfpoonbcnabihaa", sum := "58149b04f899c15a3e7fb2da55bcff436498fe723cc67ce24e20611ab78c7159", func := "girouette/girouettelaw01.ShellsCollapses", spec := "shellsCollapses", unfollowed := true, recurses := true, plainKeys := false, apart := false, narrowed := true }
def ShellsCollapsesUptoSaid : Prop := shellsCollapsesUptoRow.holds Try.pinned (OpenSpec.upto shellsCollapsesSpec)

/-- 'girouettelaw01.ShellsAlexander', WHERE WHAT IT READS IS OF BULK AT MOST 1048576: true; the input reads as it did. -/
def shellsAlexanderUptoRow : OpenClaim := { program := "ytfpoonbcnabihaa", sum := "58149b04f899c15a3e7fb2da55bcff436498fe723cc67ce24e20611ab78c7159", func := "girouette/girouettelaw01.ShellsAlexander", spec := "shellsAlexander", unfollowed := true, recurses := true, plainKeys := false, apart := false, narrowed := true }
def ShellsAlexanderUptoSaid : Prop := shellsAlexanderUptoRow.holds Try.pinned (OpenSpec.upto shellsAlexanderSpec)

/-- 'girouettelaw01.ShellsChecks', WHERE WHAT IT READS IS OF BULK AT MOST 1048576: true; the input reads as it did. -/
def shellsChecksUptoRow : OpenClaim := { program := "ytfpoonbcnabihaa", sum := "58149b04f899c15a3e7fb2da55bcff436498fe723cc67ce24e20611ab78c7159", func := "girouette/girouettelaw01.ShellsChecks", spec := "shellsChecks", unfollowed := true, recurses := true, plainKeys := false, apart := false, narrowed := true }
def ShellsChecksUptoSaid : Prop := shellsChecksUptoRow.holds Try.pinned (OpenSpec.upto shellsChecksSpec)

end Rows
end Go.Proofs.Ytfpoonbcnabihaa
