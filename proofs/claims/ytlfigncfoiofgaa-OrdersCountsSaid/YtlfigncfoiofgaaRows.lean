/-
  No cell of these rows narrows 'for every input' (looked for: loops, veiled, ifaces, maps, wideKeys, modest, calm, conditions, laid).
  DERIVED. THE GIVEN ROWS OF THIS SEAT. 7 by the template 'for every input the law returns true; each argument reads behind the call as it read before'; 0 by the template 'total and deterministic' (their statements: YtlfigncfoiofgaaTotals.lean).
  GIVEN WITH THE SEED: the statements are not yours to turn. If you find one false, say at which input.
  Laid BY PROGRAM, IN A SANDBOX (cutbox-rows.mjs): the forced cells as the released guide's own fill.sh prints them over the translation ac415b3ed3b343ae… (all of the seat's roots in one cut). By AI agents, Wed Nov 11 2026. No macro, syntax, notation, axiom, sorry.
-/
import Derived.Test.YtlfigncfoiofgaaChecked
import GoSem.Claim
import GoSem.ClaimJoined
import GoSem.ClaimMapViews
import Derived.JoinedTies
import Derived.KernelRfl
namespace Go.Proofs.Ytlfigncfoiofgaa
/- THE CELL 'sum', in the pinned program and in every row, IS THE sha256 OF THE DUMP (.gsa) THAT YtlfigncfoiofgaaProg.lean LOADS. Nothing in Lean hashes anything: it is a label: what it is worth is what the hold of that sum in a sandbox is worth. -/
noncomputable def Try.pinned : Pinned := { name := "ytlfigncfoiofgaa", sum := "ac415b3ed3b343ae61b539728a7983a6aca891cfd46446af97d28c0ddd2fc940", checked := Try.checked }
namespace Rows
def none {H : Type} : Left H := { results := [], args := [] }

/-- 'girouettelaw03.OrdersCounts': WHATEVER THE INPUT: true; the input reads as it did. -/
def ordersCountsSpec : ChangeSpec := { name := "ordersCounts", fn := fun _ => fun
  | [d1, d2] => { results := [.lit (.bool true)], args := [d1, d2] }
  | _ => none }
def ordersCountsRow : OpenClaim := { program := "ytlfigncfoiofgaa", sum := "ac415b3ed3b343ae61b539728a7983a6aca891cfd46446af97d28c0ddd2fc940", func := "girouette/girouettelaw03.OrdersCounts", spec := "ordersCounts", unfollowed := true, recurses := true, plainKeys := false, apart := false }
def OrdersCountsSaid : Prop := ordersCountsRow.holds Try.pinned (OpenSpec.ofChange ordersCountsSpec)

/-- ITS FALSE NEIGHBOUR: 'it returns false'. Refute it at one input. -/
def ordersCountsWrong : ChangeSpec := { name := "ordersCounts", fn := fun _ => fun
  | [d1, d2] => { results := [.lit (.bool false)], args := [d1, d2] }
  | _ => none }
def OrdersCountsWrongFalsely : Prop := ordersCountsRow.holds Try.pinned (OpenSpec.ofChange ordersCountsWrong)

/-- 'girouettelaw03.OrdersDraws': WHATEVER THE INPUT: true; the input reads as it did. -/
def ordersDrawsSpec : ChangeSpec := { name := "ordersDraws", fn := fun _ => fun
  | [d1, d2, d3] => { results := [.lit (.bool true)], args := [d1, d2, d3] }
  | _ => none }
def ordersDrawsRow : OpenClaim := { program := "ytlfigncfoiofgaa", sum := "ac415b3ed3b343ae61b539728a7983a6aca891cfd46446af97d28c0ddd2fc940", func := "girouette/girouettelaw03.OrdersDraws", spec := "ordersDraws", unfollowed := true, recurses := true, plainKeys := false, apart := false }
def OrdersDrawsSaid : Prop := ordersDrawsRow.holds Try.pinned (OpenSpec.ofChange ordersDrawsSpec)

/-- ITS FALSE NEIGHBOUR: 'it returns false'. Refute it at one input. -/
def ordersDrawsWrong : ChangeSpec := { name := "ordersDraws", fn := fun _ => fun
  | [d1, d2, d3] => { results := [.lit (.bool false)], args := [d1, d2, d3] }
  | _ => none }
def OrdersDrawsWrongFalsely : Prop := ordersDrawsRow.holds Try.pinned (OpenSpec.ofChange ordersDrawsWrong)

/-- 'girouettelaw03.OrdersEither': WHATEVER THE INPUT: true; the input reads as it did. -/
def ordersEitherSpec : ChangeSpec := { name := "ordersEither", fn := fun _ => fun
  | [d1, d2, d3] => { results := [.lit (.bool true)], args := [d1, d2, d3] }
  | _ => none }
def ordersEitherRow : OpenClaim := { program := "ytlfigncfoiofgaa", sum := "ac415b3ed3b343ae61b539728a7983a6aca891cfd46446af97d28c0ddd2fc940", func := "girouette/girouettelaw03.OrdersEither", spec := "ordersEither", unfollowed := true, recurses := true, plainKeys := false, apart := false }
def OrdersEitherSaid : Prop := ordersEitherRow.holds Try.pinned (OpenSpec.ofChange ordersEitherSpec)

/-- ITS FALSE NEIGHBOUR: 'it returns false'. Refute it at one input. -/
def ordersEitherWrong : ChangeSpec := { name := "ordersEither", fn := fun _ => fun
  | [d1, d2, d3] => { results := [.lit (.bool false)], args := [d1, d2, d3] }
  | _ => none }
def OrdersEitherWrongFalsely : Prop := ordersEitherRow.holds Try.pinned (OpenSpec.ofChange ordersEitherWrong)

/-- 'girouettelaw03.OrdersMirsky': WHATEVER THE INPUT: true; the input reads as it did. -/
def ordersMirskySpec : ChangeSpec := { name := "ordersMirsky", fn := fun _ => fun
  | [d1, d2] => { results := [.lit (.bool true)], args := [d1, d2] }
  | _ => none }
def ordersMirskyRow : OpenClaim := { program := "ytlfigncfoiofgaa", sum := "ac415b3ed3b343ae61b539728a7983a6aca891cfd46446af97d28c0ddd2fc940", func := "girouette/girouettelaw03.OrdersMirsky", spec := "ordersMirsky", unfollowed := true, recurses := true, plainKeys := false, apart := false }
def OrdersMirskySaid : Prop := ordersMirskyRow.holds Try.pinned (OpenSpec.ofChange ordersMirskySpec)

/-- ITS FALSE NEIGHBOUR: 'it returns false'. Refute it at one input. -/
def ordersMirskyWrong : ChangeSpec := { name := "ordersMirsky", fn := fun _ => fun
  | [d1, d2] => { results := [.lit (.bool false)], args := [d1, d2] }
  | _ => none }
def OrdersMirskyWrongFalsely : Prop := ordersMirskyRow.holds Try.pinned (OpenSpec.ofChange ordersMirskyWrong)

/-- 'girouettelaw03.OrdersPnueli': WHATEVER THE INPUT: true; the input reads as it did. -/
def ordersPnueliSpec : ChangeSpec := { name := "ordersPnueli", fn := fun _ => fun
  | [d1, d2, d3] => { results := [.lit (.bool true)], args := [d1, d2, d3] }
  | _ => none }
def ordersPnueliRow : OpenClaim := { program := "ytlfigncfoiofgaa", sum := "ac415b3ed3b343ae61b539728a7983a6aca891cfd46446af97d28c0ddd2fc940", func := "girouette/girouettelaw03.OrdersPnueli", spec := "ordersPnueli", unfollowed := true, recurses := true, plainKeys := false, apart := false }
def OrdersPnueliSaid : Prop := ordersPnueliRow.holds Try.pinned (OpenSpec.ofChange ordersPnueliSpec)

/-- ITS FALSE NEIGHBOUR: 'it returns false'. Refute it at one input. -/
def ordersPnueliWrong : ChangeSpec := { name := "ordersPnueli", fn := fun _ => fun
  | [d1, d2, d3] => { results := [.lit (.bool false)], args := [d1, d2, d3] }
  | _ => none }
def OrdersPnueliWrongFalsely : Prop := ordersPnueliRow.holds Try.pinned (OpenSpec.ofChange ordersPnueliWrong)

/-- 'girouettelaw03.OrdersGallai': WHATEVER THE INPUT: true; the input reads as it did. -/
def ordersGallaiSpec : ChangeSpec := { name := "ordersGallai", fn := fun _ => fun
  | [d1, d2] => { results := [.lit (.bool true)], args := [d1, d2] }
  | _ => none }
def ordersGallaiRow : OpenClaim := { program := "ytlfigncfoiofgaa", sum := "ac415b3ed3b343ae61b539728a7983a6aca891cfd46446af97d28c0ddd2fc940", func := "girouette/girouettelaw03.OrdersGallai", spec := "ordersGallai", unfollowed := true, recurses := true, plainKeys := false, apart := false }
def OrdersGallaiSaid : Prop := ordersGallaiRow.holds Try.pinned (OpenSpec.ofChange ordersGallaiSpec)

/-- ITS FALSE NEIGHBOUR: 'it returns false'. Refute it at one input. -/
def ordersGallaiWrong : ChangeSpec := { name := "ordersGallai", fn := fun _ => fun
  | [d1, d2] => { results := [.lit (.bool false)], args := [d1, d2] }
  | _ => none }
def OrdersGallaiWrongFalsely : Prop := ordersGallaiRow.holds Try.pinned (OpenSpec.ofChange ordersGallaiWrong)

/-- 'girouettelaw03.OrdersForces': WHATEVER THE INPUT: true; the input reads as it did. -/
def ordersForcesSpec : ChangeSpec := { name := "ordersForces", fn := fun _ => fun
  | [d1, d2, d3] => { results := [.lit (.bool true)], args := [d1, d2, d3] }
  | _ => none }
def ordersForcesRow : OpenClaim := { program := "ytlfigncfoiofgaa", sum := "ac415b3ed3b343ae61b539728a7983a6aca891cfd46446af97d28c0ddd2fc940", func := "girouette/girouettelaw03.OrdersForces", spec := "ordersForces", unfollowed := true, recurses := true, plainKeys := false, apart := false }
def OrdersForcesSaid : Prop := ordersForcesRow.holds Try.pinned (OpenSpec.ofChange ordersForcesSpec)

/-- ITS FALSE NEIGHBOUR: 'it returns false'. Refute it at one input. -/
def ordersForcesWrong : ChangeSpec := { name := "ordersForces", fn := fun _ => fun
  | [d1, d2, d3] => { results := [.lit (.bool false)], args := [d1, d2, d3] }
  | _ => none }
def OrdersForcesWrongFalsely : Prop := ordersForcesRow.holds Try.pinned (OpenSpec.ofChange ordersForcesWrong)

/- THE SECOND FORM. 'bulk': how many values and letters a reading holds, each counted each time it is reached (what is shared counts as often as it is met; a slice's spare places count too). A statement '..UptoSaid' is the law's where the arguments, and the package variables that the reading takes, are together of bulk at most 1048576: NARROWER than '..Said'. Prove '..Said' where nothing that the law and all that it calls make is longer than what came in: it says more and counts as full. Else prove '..UptoSaid'. A law counts once. -/
mutual
def uptoBulk {H : Type} : DataW H → Nat
  | .lit (.string bytes) => bytes.length + 1
  | .lit _ => 1
  | .nil => 1
  | .ptr d => uptoBulk d + 1
  | .slice elems spare => uptoBulkAll elems + uptoBulkAll spare + 1
  | .agg parts => uptoBulkAll parts + 1
  | .iface _ d => uptoBulk d + 1
  | .map entries => uptoBulkEntries entries + 1
  | .held _ => 1
def uptoBulkAll {H : Type} : List (DataW H) → Nat
  | [] => 0
  | d :: r => uptoBulk d + uptoBulkAll r
def uptoBulkEntries {H : Type} : List (Lit × DataW H) → Nat
  | [] => 0
  | x :: r => uptoBulkEntry x + uptoBulkEntries r
def uptoBulkEntry {H : Type} : Lit × DataW H → Nat
  | (.string bytes, d) => bytes.length + uptoBulk d + 1
  | (_, d) => uptoBulk d + 1
 end
def uptoSmall : (H : Type) → List (DataW H) → Bool := fun _ ds => decide (uptoBulkAll ds ≤ 1048576)
def OpenSpec.upto (s : _root_.Go.ChangeSpec) : _root_.Go.OpenSpec := { _root_.Go.OpenSpec.ofChange s with cond := some uptoSmall }

/-- 'girouettelaw03.OrdersCounts', WHERE WHAT IT READS IS OF BULK AT MOST 1048576: true; the input reads as it did. -/
def ordersCountsUptoRow : OpenClaim := { program := "ytlfigncfoiofgaa", sum := "ac415b3ed3b343ae61b539728a7983a6aca891cfd46446af97d28c0ddd2fc940", func := "girouette/girouettelaw03.OrdersCounts", spec := "ordersCounts", unfollowed := true, recurses := true, plainKeys := false, apart := false, narrowed := true }
def OrdersCountsUptoSaid : Prop := ordersCountsUptoRow.holds Try.pinned (OpenSpec.upto ordersCountsSpec)

/-- 'girouettelaw03.OrdersDraws', WHERE WHAT IT READS IS OF BULK AT MOST 1048576: true; the input reads as it did. -/
def ordersDrawsUptoRow : OpenClaim := { program := "ytlfigncfoiofgaa", sum := "ac415b3ed3b343ae61b539728a7983a6aca891cfd46446af97d28c0ddd2fc940", func := "girouette/girouettelaw03.OrdersDraws", spec := "ordersDraws", unfollowed := true, recurses := true, plainKeys := false, apart := false, narrowed := true }
def OrdersDrawsUptoSaid : Prop := ordersDrawsUptoRow.holds Try.pinned (OpenSpec.upto ordersDrawsSpec)

/-- 'girouettelaw03.OrdersEither', WHERE WHAT IT READS IS OF BULK AT MOST 1048576: true; the input reads as it did. -/
def ordersEitherUptoRow : OpenClaim := { program := "ytlfigncfoiofgaa", sum := "ac415b3ed3b343ae61b539728a7983a6aca891cfd46446af97d28c0ddd2fc940", func := "girouette/girouettelaw03.OrdersEither", spec := "ordersEither", unfollowed := true, recurses := true, plainKeys := false, apart := false, narrowed := true }
def OrdersEitherUptoSaid : Prop := ordersEitherUptoRow.holds Try.pinned (OpenSpec.upto ordersEitherSpec)

/-- 'girouettelaw03.OrdersMirsky', WHERE WHAT IT READS IS OF BULK AT MOST 1048576: true; the input reads as it did. -/
def ordersMirskyUptoRow : OpenClaim := { program := "ytlfigncfoiofgaa", sum := "ac415b3ed3b343ae61b539728a7983a6aca891cfd46446af97d28c0ddd2fc940", func := "girouette/girouettelaw03.OrdersMirsky", spec := "ordersMirsky", unfollowed := true, recurses := true, plainKeys := false, apart := false, narrowed := true }
def OrdersMirskyUptoSaid : Prop := ordersMirskyUptoRow.holds Try.pinned (OpenSpec.upto ordersMirskySpec)

/-- 'girouettelaw03.OrdersPnueli', WHERE WHAT IT READS IS OF BULK AT MOST 1048576: true; the input reads as it did. -/
def ordersPnueliUptoRow : OpenClaim := { program := "ytlfigncfoiofgaa", sum := "ac415b3ed3b343ae61b539728a7983a6aca891cfd46446af97d28c0ddd2fc940", func := "girouette/girouettelaw03.OrdersPnueli", spec := "ordersPnueli", unfollowed := true, recurses := true, plainKeys := false, apart := false, narrowed := true }
def OrdersPnueliUptoSaid : Prop := ordersPnueliUptoRow.holds Try.pinned (OpenSpec.upto ordersPnueliSpec)

/-- 'girouettelaw03.OrdersGallai', WHERE WHAT IT READS IS OF BULK AT MOST 1048576: true; the input reads as it did. -/
def ordersGallaiUptoRow : OpenClaim := { program := "ytlfigncfoiofgaa", sum := "ac415b3ed3b343ae61b539728a7983a6aca891cfd46446af97d28c0ddd2fc940", func := "girouette/girouettelaw03.OrdersGallai", spec := "ordersGallai", unfollowed := true, recurses := true, plainKeys := false, apart := false, narrowed := true }
def OrdersGallaiUptoSaid : Prop := ordersGallaiUptoRow.holds Try.pinned (OpenSpec.upto ordersGallaiSpec)

/-- 'girouettelaw03.OrdersForces', WHERE WHAT IT READS IS OF BULK AT MOST 1048576: true; the input reads as it did. -/
def ordersForcesUptoRow : OpenClaim := { program := "ytlfigncfoiofgaa", sum := "ac415b3ed3b343ae61b539728a7983a6aca891cfd46446af97d28c0ddd2fc940", func := "girouette/girouettelaw03.OrdersForces", spec := "ordersForces", unfollowed := true, recurses := true, plainKeys := false, apart := false, narrowed := true }
def OrdersForcesUptoSaid : Prop := ordersForcesUptoRow.holds Try.pinned (OpenSpec.upto ordersForcesSpec)

end Rows
end Go.Proofs.Ytlfigncfoiofgaa
