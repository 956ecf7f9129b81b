/-
  NARROWER THAN 'FOR EVERY INPUT', by the rows' own cells (each row's printed sentence says how): BernCorners: laid · BernRoots: laid · BernPositive: laid · BernDescartes: laid · BernLists: laid · BernLorentz: laid · BernOwn: laid · BernValues: laid · BernChecks: laid.
  DERIVED. THE GIVEN ROWS OF THIS SEAT. 9 by the template 'for every input the law returns true; each argument reads behind the call as it read before'; 0 by the template 'total and deterministic' (their statements: YtjmfgoemdkfldaaDoorTotals.lean).
  GIVEN WITH THE SEED: the statements are not yours to turn. If you find one false, say at which input.
  Laid BY PROGRAM, IN A SANDBOX (cutbox-rows.mjs): the forced cells as the released guide's own fill.sh prints them over the translation 4f9d762a2846cf86… (all of the seat's roots in one cut). By AI agents, Wed Nov 11 2026. No macro, syntax, notation, axiom, sorry.
-/
import Derived.Test.YtjmfgoemdkfldaaDoorChecked
import GoSem.Claim
import GoSem.ClaimJoined
import GoSem.ClaimMapViews
import Derived.JoinedTies
import Derived.KernelRfl
namespace Go.Proofs.YtjmfgoemdkfldaaDoor
/- THE CELL 'sum', in the pinned program and in every row, IS THE sha256 OF THE DUMP (.gsa) THAT YtjmfgoemdkfldaaDoorProg.lean LOADS. Nothing in Lean hashes anything: it is a label: what it is worth is what the hold of that sum in a sandbox is worth. -/
noncomputable def Tryd.pinned : Pinned := { name := "ytjmfgoemdkfldaadoor", sum := "4f9d762a2846cf867463493b3555ca0e82b55a52eea6bbf1dd751b04f4842a69", checked := Tryd.checked }
namespace Rows
def none {H : Type} : Left H := { results := [], args := [] }

/- WHAT THE LISTED PACKAGE-LEVEL VARIABLES READ AS WHEN THE CALL BEGINS. Each datum BY PROGRAM (the guide's laid-datum.mjs) off the statement by which the dump's own 'gosem.cut.vars' lays the variable. In a bare row this is a premise. The card (YtjmfgoemdkfldaaDoorCards.lean) ties it to the program's text. -/
def laid_girouette_bern_whole {H : Type} : DataW H := .agg [.lit (.int .i64 0), .lit (.int .i64 0)]

/-- 'girouettelaw08.BernCorners': WHATEVER THE INPUT: true; the input reads as it did. -/
def bernCornersSpec : ChangeSpec := { name := "bernCorners", fn := fun _ => fun
  | [d1, d2] => { results := [.lit (.bool true)], args := [d1, d2] }
  | _ => none }
def bernCornersRow : OpenClaim := { program := "ytjmfgoemdkfldaadoor", sum := "4f9d762a2846cf867463493b3555ca0e82b55a52eea6bbf1dd751b04f4842a69", func := "girouette/girouettelaw08.BernCorners", spec := "bernCorners", unfollowed := true, recurses := true, named := ["girouette/bern.whole"], plainKeys := false, apart := false, laid := [("girouette/bern.whole", laid_girouette_bern_whole)] }
def BernCornersSaid : Prop := bernCornersRow.holds Tryd.pinned (OpenSpec.ofChange bernCornersSpec)

/-- ITS FALSE NEIGHBOUR: 'it returns false'. Refute it at one input. -/
def bernCornersWrong : ChangeSpec := { name := "bernCorners", fn := fun _ => fun
  | [d1, d2] => { results := [.lit (.bool false)], args := [d1, d2] }
  | _ => none }
def BernCornersWrongFalsely : Prop := bernCornersRow.holds Tryd.pinned (OpenSpec.ofChange bernCornersWrong)

/-- 'girouettelaw08.BernRoots': WHATEVER THE INPUT: true; the input reads as it did. -/
def bernRootsSpec : ChangeSpec := { name := "bernRoots", fn := fun _ => fun
  | [d] => { results := [.lit (.bool true)], args := [d] }
  | _ => none }
def bernRootsRow : OpenClaim := { program := "ytjmfgoemdkfldaadoor", sum := "4f9d762a2846cf867463493b3555ca0e82b55a52eea6bbf1dd751b04f4842a69", func := "girouette/girouettelaw08.BernRoots", spec := "bernRoots", unfollowed := true, recurses := true, named := ["girouette/bern.whole"], plainKeys := false, apart := false, laid := [("girouette/bern.whole", laid_girouette_bern_whole)] }
def BernRootsSaid : Prop := bernRootsRow.holds Tryd.pinned (OpenSpec.ofChange bernRootsSpec)

/-- ITS FALSE NEIGHBOUR: 'it returns false'. Refute it at one input. -/
def bernRootsWrong : ChangeSpec := { name := "bernRoots", fn := fun _ => fun
  | [d] => { results := [.lit (.bool false)], args := [d] }
  | _ => none }
def BernRootsWrongFalsely : Prop := bernRootsRow.holds Tryd.pinned (OpenSpec.ofChange bernRootsWrong)

/-- 'girouettelaw08.BernPositive': WHATEVER THE INPUT: true; the input reads as it did. -/
def bernPositiveSpec : ChangeSpec := { name := "bernPositive", fn := fun _ => fun
  | [d1, d2] => { results := [.lit (.bool true)], args := [d1, d2] }
  | _ => none }
def bernPositiveRow : OpenClaim := { program := "ytjmfgoemdkfldaadoor", sum := "4f9d762a2846cf867463493b3555ca0e82b55a52eea6bbf1dd751b04f4842a69", func := "girouette/girouettelaw08.BernPositive", spec := "bernPositive", unfollowed := true, recurses := true, named := ["girouette/bern.whole"], plainKeys := false, apart := false, laid := [("girouette/bern.whole", laid_girouette_bern_whole)] }
def BernPositiveSaid : Prop := bernPositiveRow.holds Tryd.pinned (OpenSpec.ofChange bernPositiveSpec)

/-- ITS FALSE NEIGHBOUR: 'it returns false'. Refute it at one input. -/
def bernPositiveWrong : ChangeSpec := { name := "bernPositive", fn := fun _ => fun
  | [d1, d2] => { results := [.lit (.bool false)], args := [d1, d2] }
  | _ => none }
def BernPositiveWrongFalsely : Prop := bernPositiveRow.holds Tryd.pinned (OpenSpec.ofChange bernPositiveWrong)

/-- 'girouettelaw08.BernDescartes': WHATEVER THE INPUT: true; the input reads as it did. -/
def bernDescartesSpec : ChangeSpec := { name := "bernDescartes", fn := fun _ => fun
  | [d] => { results := [.lit (.bool true)], args := [d] }
  | _ => none }
def bernDescartesRow : OpenClaim := { program := "ytjmfgoemdkfldaadoor", sum := "4f9d762a2846cf867463493b3555ca0e82b55a52eea6bbf1dd751b04f4842a69", func := "girouette/girouettelaw08.BernDescartes", spec := "bernDescartes", unfollowed := true, recurses := true, named := ["girouette/bern.whole"], plainKeys := false, apart := false, laid := [("girouette/bern.whole", laid_girouette_bern_whole)] }
def BernDescartesSaid : Prop := bernDescartesRow.holds Tryd.pinned (OpenSpec.ofChange bernDescartesSpec)

/-- ITS FALSE NEIGHBOUR: 'it returns false'. Refute it at one input. -/
def bernDescartesWrong : ChangeSpec := { name := "bernDescartes", fn := fun _ => fun
  | [d] => { results := [.lit (.bool false)], args := [d] }
  | _ => none }
def BernDescartesWrongFalsely : Prop := bernDescartesRow.holds Tryd.pinned (OpenSpec.ofChange bernDescartesWrong)

/-- 'girouettelaw08.BernLists': WHATEVER THE INPUT: true; the input reads as it did. -/
def bernListsSpec : ChangeSpec := { name := "bernLists", fn := fun _ => fun
  | [d1, d2] => { results := [.lit (.bool true)], args := [d1, d2] }
  | _ => none }
def bernListsRow : OpenClaim := { program := "ytjmfgoemdkfldaadoor", sum := "4f9d762a2846cf867463493b3555ca0e82b55a52eea6bbf1dd751b04f4842a69", func := "girouette/girouettelaw08.BernLists", spec := "bernLists", unfollowed := true, recurses := true, named := ["girouette/bern.whole"], plainKeys := false, apart := false, laid := [("girouette/bern.whole", laid_girouette_bern_whole)] }
def BernListsSaid : Prop := bernListsRow.holds Tryd.pinned (OpenSpec.ofChange bernListsSpec)

/-- ITS FALSE NEIGHBOUR: 'it returns false'. Refute it at one input. -/
def bernListsWrong : ChangeSpec := { name := "bernLists", fn := fun _ => fun
  | [d1, d2] => { results := [.lit (.bool false)], args := [d1, d2] }
  | _ => none }
def BernListsWrongFalsely : Prop := bernListsRow.holds Tryd.pinned (OpenSpec.ofChange bernListsWrong)

/-- 'girouettelaw08.BernLorentz': WHATEVER THE INPUT: true; the input reads as it did. -/
def bernLorentzSpec : ChangeSpec := { name := "bernLorentz", fn := fun _ => fun
  | [d1, d2, d3] => { results := [.lit (.bool true)], args := [d1, d2, d3] }
  | _ => none }
def bernLorentzRow : OpenClaim := { program := "ytjmfgoemdkfldaadoor", sum := "4f9d762a2846cf867463493b3555ca0e82b55a52eea6bbf1dd751b04f4842a69", func := "girouette/girouettelaw08.BernLorentz", spec := "bernLorentz", unfollowed := true, recurses := true, named := ["girouette/bern.whole"], plainKeys := false, apart := false, laid := [("girouette/bern.whole", laid_girouette_bern_whole)] }
def BernLorentzSaid : Prop := bernLorentzRow.holds Tryd.pinned (OpenSpec.ofChange bernLorentzSpec)

/-- ITS FALSE NEIGHBOUR: 'it returns false'. Refute it at one input. -/
def bernLorentzWrong : ChangeSpec := { name := "bernLorentz", fn := fun _ => fun
  | [d1, d2, d3] => { results := [.lit (.bool false)], args := [d1, d2, d3] }
  | _ => none }
def BernLorentzWrongFalsely : Prop := bernLorentzRow.holds Tryd.pinned (OpenSpec.ofChange bernLorentzWrong)

/-- 'girouettelaw08.BernOwn': WHATEVER THE INPUT: true; the input reads as it did. -/
def bernOwnSpec : ChangeSpec := { name := "bernOwn", fn := fun _ => fun
  | [d1, d2] => { results := [.lit (.bool true)], args := [d1, d2] }
  | _ => none }
def bernOwnRow : OpenClaim := { program := "ytjmfgoemdkfldaadoor", sum := "4f9d762a2846cf867463493b3555ca0e82b55a52eea6bbf1dd751b04f4842a69", func := "girouette/girouettelaw08.BernOwn", spec := "bernOwn", unfollowed := true, recurses := true, named := ["girouette/bern.whole"], plainKeys := false, apart := false, laid := [("girouette/bern.whole", laid_girouette_bern_whole)] }
def BernOwnSaid : Prop := bernOwnRow.holds Tryd.pinned (OpenSpec.ofChange bernOwnSpec)

/-- ITS FALSE NEIGHBOUR: 'it returns false'. Refute it at one input. -/
def bernOwnWrong : ChangeSpec := { name := "bernOwn", fn := fun _ => fun
  | [d1, d2] => { results := [.lit (.bool false)], args := [d1, d2] }
  | _ => none }
def BernOwnWrongFalsely : Prop := bernOwnRow.holds Tryd.pinned (OpenSpec.ofChange bernOwnWrong)

/-- 'girouettelaw08.BernValues': WHATEVER THE INPUT: true; the input reads as it did. -/
def bernValuesSpec : ChangeSpec := { name := "bernValues", fn := fun _ => fun
  | [d1, d2] => { results := [.lit (.bool true)], args := [d1, d2] }
  | _ => none }
def bernValuesRow : OpenClaim := { program := "ytjmfgoemdkfldaadoor", sum := "4f9d762a2846cf867463493b3555ca0e82b55a52eea6bbf1dd751b04f4842a69", func := "girouette/girouettelaw08.BernValues", spec := "bernValues", unfollowed := true, recurses := true, named := ["girouette/bern.whole"], plainKeys := false, apart := false, laid := [("girouette/bern.whole", laid_girouette_bern_whole)] }
def BernValuesSaid : Prop := bernValuesRow.holds Tryd.pinned (OpenSpec.ofChange bernValuesSpec)

/-- ITS FALSE NEIGHBOUR: 'it returns false'. Refute it at one input. -/
def bernValuesWrong : ChangeSpec := { name := "bernValues", fn := fun _ => fun
  | [d1, d2] => { results := [.lit (.bool false)], args := [d1, d2] }
  | _ => none }
def BernValuesWrongFalsely : Prop := bernValuesRow.holds Tryd.pinned (OpenSpec.ofChange bernValuesWrong)

/-- 'girouettelaw08.BernChecks': WHATEVER THE INPUT: true; the input reads as it did. -/
def bernChecksSpec : ChangeSpec := { name := "bernChecks", fn := fun _ => fun
  | [d1, d2] => { results := [.lit (.bool true)], args := [d1, d2] }
  | _ => none }
def bernChecksRow : OpenClaim := { program := "ytjmfgoemdkfldaadoor", sum := "4f9d762a2846cf867463493b3555ca0e82b55a52eea6bbf1dd751b04f4842a69", func := "girouette/girouettelaw08.BernChecks", spec := "bernChecks", unfollowed := true, recurses := true, named := ["girouette/bern.whole"], plainKeys := false, apart := false, laid := [("girouette/bern.whole", laid_girouette_bern_whole)] }
def BernChecksSaid : Prop := bernChecksRow.holds Tryd.pinned (OpenSpec.ofChange bernChecksSpec)

/-- ITS FALSE NEIGHBOUR: 'it returns false'. Refute it at one input. -/
def bernChecksWrong : ChangeSpec := { name := "bernChecks", fn := fun _ => fun
  | [d1, d2] => { results := [.lit (.bool false)], args := [d1, d2] }
  | _ => none }
def BernChecksWrongFalsely : Prop := bernChecksRow.holds Tryd.pinned (OpenSpec.ofChange bernChecksWrong)

/- THE SECOND FORM. 'bulk': how many values and letters a reading holds, each counted each time it is reached (what is shared counts as often as it is met; a slice's spare places count too). A statement '..UptoSaid' is the law's where the arguments, and the package variables that the reading takes, are together of bulk at most 1048576: NARROWER than '..Said'. Prove '..Said' where nothing that the law and all that it calls make is longer than what came in: it says more and counts as full. Else prove '..UptoSaid'. A law counts once. -/
mutual
def uptoBulk {H : Type} : DataW H → Nat
  | .lit (.string bytes) => bytes.length + 1
  | .lit _ => 1
  | .nil => 1
  | .ptr d => uptoBulk d + 1
  | .slice elems spare => uptoBulkAll elems + uptoBulkAll spare + 1
  | .agg parts => uptoBulkAll parts + 1
  | .iface _ d => uptoBulk d + 1
  | .map entries => uptoBulkEntries entries + 1
  | .held _ => 1
def uptoBulkAll {H : Type} : List (DataW H) → Nat
  | [] => 0
  | d :: r => uptoBulk d + uptoBulkAll r
def uptoBulkEntries {H : Type} : List (Lit × DataW H) → Nat
  | [] => 0
  | x :: r => uptoBulkEntry x + uptoBulkEntries r
def uptoBulkEntry {H : Type} : Lit × DataW H → Nat
  | (.string bytes, d) => bytes.length + uptoBulk d + 1
  | (_, d) => uptoBulk d + 1
 end
def uptoSmall : (H : Type) → List (DataW H) → Bool := fun _ ds => decide (uptoBulkAll ds ≤ 1048576)
def OpenSpec.upto (s : _root_.Go.ChangeSpec) : _root_.Go.OpenSpec := { _root_.Go.OpenSpec.ofChange s with cond := some uptoSmall }

/-- 'girouettelaw08.BernCorners', WHERE WHAT IT READS IS OF BULK AT MOST 1048576: true; the input reads as it did. -/
def bernCornersUptoRow : OpenClaim := { program := "ytjmfgoemdkfldaadoor", sum := "4f9d762a2846cf867463493b3555ca0e82b55a52eea6bbf1dd751b04f4842a69", func := "girouette/girouettelaw08.BernCorners", spec := "bernCorners", unfollowed := true, recurses := true, named := ["girouette/bern.whole"], plainKeys := false, apart := false, laid := [("girouette/bern.whole", laid_girouette_bern_whole)], narrowed := true }
def BernCornersUptoSaid : Prop := bernCornersUptoRow.holds Tryd.pinned (OpenSpec.upto bernCornersSpec)

/-- 'girouettelaw08.BernRoots', WHERE WHAT IT READS IS OF BULK AT MOST 1048576: true; the input reads as it did. -/
def bernRootsUptoRow : OpenClaim := { program := "ytjmfgoemdkfldaadoor", sum := "4f9d762a2846cf867463493b3555ca0e82b55a52eea6bbf1dd751b04f4842a69", func := "girouette/girouettelaw08.BernRoots", spec := "bernRoots", unfollowed := true, recurses := true, named := ["girouette/bern.whole"], plainKeys := false, apart := false, laid := [("girouette/bern.whole", laid_girouette_bern_whole)], narrowed := true }
def BernRootsUptoSaid : Prop := bernRootsUptoRow.holds Tryd.pinned (OpenSpec.upto bernRootsSpec)

/-- 'girouettelaw08.BernPositive', WHERE WHAT IT READS IS OF BULK AT MOST 1048576: true; the input reads as it did. -/
def bernPositiveUptoRow : OpenClaim := { program := "ytjmfgoemdkfldaadoor", sum := "4f9d762a2846cf867463493b3555ca0e82b55a52eea6bbf1dd751b04f4842a69", func := "girouette/girouettelaw08.BernPositive", spec := "bernPositive", unfollowed := true, recurses := true, named := ["girouette/bern.whole"], plainKeys := false, apart := false, laid := [("girouette/bern.whole", laid_girouette_bern_whole)], narrowed := true }
def BernPositiveUptoSaid : Prop := bernPositiveUptoRow.holds Tryd.pinned (OpenSpec.upto bernPositiveSpec)

/-- 'girouettelaw08.BernDescartes', WHERE WHAT IT READS IS OF BULK AT MOST 1048576: true; the input reads as it did. -/
def bernDescartesUptoRow : OpenClaim := { program := "ytjmfgoemdkfldaadoor", sum := "4f9d762a2846cf867463493b3555ca0e82b55a52eea6bbf1dd751b04f4842a69", func := "girouette/girouettelaw08.BernDescartes", spec := "bernDescartes", unfollowed := true, recurses := true, named := ["girouette/bern.whole"], plainKeys := false, apart := false, laid := [("girouette/bern.whole", laid_girouette_bern_whole)], narrowed := true }
def BernDescartesUptoSaid : Prop := bernDescartesUptoRow.holds Tryd.pinned (OpenSpec.upto bernDescartesSpec)

/-- 'girouettelaw08.BernLists', WHERE WHAT IT READS IS OF BULK AT MOST 1048576: true; the input reads as it did. -/
def bernListsUptoRow : OpenClaim := { program := "ytjmfgoemdkfldaadoor", sum := "4f9d762a2846cf867463493b3555ca0e82b55a52eea6bbf1dd751b04f4842a69", func := "girouette/girouettelaw08.BernLists", spec := "bernLists", unfollowed := true, recurses := true, named := ["girouette/bern.whole"], plainKeys := false, apart := false, laid := [("girouette/bern.whole", laid_girouette_bern_whole)], narrowed := true }
def BernListsUptoSaid : Prop := bernListsUptoRow.holds Tryd.pinned (OpenSpec.upto bernListsSpec)

/-- 'girouettelaw08.BernLorentz', WHERE WHAT IT READS IS OF BULK AT MOST 1048576: true; the input reads as it did. -/
def bernLorentzUptoRow : OpenClaim := { program := "ytjmfgoemdkfldaadoor", sum := "4f9d762a2846cf867463493b3555ca0e82b55a52eea6bbf1dd751b04f4842a69", func := "girouette/girouettelaw08.BernLorentz", spec := "bernLorentz", unfollowed := true, recurses := true, named := ["girouette/bern.whole"], plainKeys := false, apart := false, laid := [("girouette/bern.whole", laid_girouette_bern_whole)], narrowed := true }
def BernLorentzUptoSaid : Prop := bernLorentzUptoRow.holds Tryd.pinned (OpenSpec.upto bernLorentzSpec)

/-- 'girouettelaw08.BernOwn', WHERE WHAT IT READS IS OF BULK AT MOST 1048576: true; the input reads as it did. -/
def bernOwnUptoRow : OpenClaim := { program := "ytjmfgoemdkfldaadoor", sum := "4f9d762a2846cf867463493b3555ca0e82b55a52eea6bbf1dd751b04f4842a69", func := "girouette/girouettelaw08.BernOwn", spec := "bernOwn", unfollowed := true, recurses := true, named := ["girouette/bern.whole"], plainKeys := false, apart := false, laid := [("girouette/bern.whole", laid_girouette_bern_whole)], narrowed := true }
def BernOwnUptoSaid : Prop := bernOwnUptoRow.holds Tryd.pinned (OpenSpec.upto bernOwnSpec)

/-- 'girouettelaw08.BernValues', WHERE WHAT IT READS IS OF BULK AT MOST 1048576: true; the input reads as it did. -/
def bernValuesUptoRow : OpenClaim := { program := "ytjmfgoemdkfldaadoor", sum := "4f9d762a2846cf867463493b3555ca0e82b55a52eea6bbf1dd751b04f4842a69", func := "girouette/girouettelaw08.BernValues", spec := "bernValues", unfollowed := true, recurses := true, named := ["girouette/bern.whole"], plainKeys := false, apart := false, laid := [("girouette/bern.whole", laid_girouette_bern_whole)], narrowed := true }
def BernValuesUptoSaid : Prop := bernValuesUptoRow.holds Tryd.pinned (OpenSpec.upto bernValuesSpec)

/-- 'girouettelaw08.BernChecks', WHERE WHAT IT READS IS OF BULK AT MOST 1048576: true; the input reads as it did. -/
def bernChecksUptoRow : OpenClaim := { program := "ytjmfgoemdkfldaadoor", sum := "4f9d762a2846cf867463493b3555ca0e82b55a52eea6bbf1dd751b04f4842a69", func := "girouette/girouettelaw08.BernChecks", spec := "bernChecks", unfollowed := true, recurses := true, named := ["girouette/bern.whole"], plainKeys := false, apart := false, laid := [("girouette/bern.whole", laid_girouette_bern_whole)], narrowed := true }
def BernChecksUptoSaid : Prop := bernChecksUptoRow.holds Tryd.pinned (OpenSpec.upto bernChecksSpec)

end Rows
end Go.Proofs.YtjmfgoemdkfldaaDoor
