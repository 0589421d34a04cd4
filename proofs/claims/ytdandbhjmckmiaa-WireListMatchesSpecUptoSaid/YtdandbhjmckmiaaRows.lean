/-
  No cell of these rows narrows 'for every input' (looked for: loops, veiled, ifaces, maps, wideKeys, modest, calm, conditions, laid).
  DERIVED. THE GIVEN ROWS OF THIS SEAT. 11 by the template 'for every input the law returns true; each argument reads behind the call as it read before'; 0 by the template 'total and deterministic' (their statements: YtdandbhjmckmiaaTotals.lean).
  GIVEN WITH THE SEED: the statements are not yours to turn. If you find one false, say at which input.
  Laid BY PROGRAM, IN A SANDBOX (cutbox-rows.mjs): the forced cells as the released guide's own fill.sh prints them over the translation 7820df4218c6e4b8… (all of the seat's roots in one cut). By AI agents, Wed Nov 11 2026. No macro, syntax, notation, axiom, sorry.
-/
import Derived.Test.YtdandbhjmckmiaaChecked
import GoSem.Claim
import GoSem.ClaimJoined
import GoSem.ClaimMapViews
import Derived.JoinedTies
import Derived.KernelRfl
namespace Go.Proofs.Ytdandbhjmckmiaa
/- THE CELL 'sum', in the pinned program and in every row, IS THE sha256 OF THE DUMP (.gsa) THAT YtdandbhjmckmiaaProg.lean LOADS. Nothing in Lean hashes anything: it is a label: what it is worth is what the hold of that sum in a sandbox is worth. -/
noncomputable def Try.pinned : Pinned := { name := "ytdandbhjmckmiaa", sum := "7820df4218c6e4b8286db695ecdcd5ef2ca731bd4dc698c1cf089b0f70cbb6fd", checked := Try.checked }
namespace Rows
def none {H : Type} : Left H := { results := [], args := [] }

/-- 'scriptoriumlaw1.WireNumberMatchesSpec': WHATEVER THE INPUT: true; the input reads as it did. -/
def wireNumberMatchesSpecSpec : ChangeSpec := { name := "wireNumberMatchesSpec", fn := fun _ => fun
  | [d] => { results := [.lit (.bool true)], args := [d] }
  | _ => none }
def wireNumberMatchesSpecRow : OpenClaim := { program := "ytdandbhjmckmiaa", sum := "7820df4218c6e4b8286db695ecdcd5ef2ca731bd4dc698c1cf089b0f70cbb6fd", func := "scriptorium/scriptoriumlaw1.WireNumberMatchesSpec", spec := "wireNumberMatchesSpec", apart := false }
def WireNumberMatchesSpecSaid : Prop := wireNumberMatchesSpecRow.holds Try.pinned (OpenSpec.ofChange wireNumberMatchesSpecSpec)

/-- ITS FALSE NEIGHBOUR: 'it returns false'. Refute it at one input. -/
def wireNumberMatchesSpecWrong : ChangeSpec := { name := "wireNumberMatchesSpec", fn := fun _ => fun
  | [d] => { results := [.lit (.bool false)], args := [d] }
  | _ => none }
def WireNumberMatchesSpecWrongFalsely : Prop := wireNumberMatchesSpecRow.holds Try.pinned (OpenSpec.ofChange wireNumberMatchesSpecWrong)

/-- 'scriptoriumlaw1.WireReadNumberMatchesSpec': WHATEVER THE INPUT: true; the input reads as it did. -/
def wireReadNumberMatchesSpecSpec : ChangeSpec := { name := "wireReadNumberMatchesSpec", fn := fun _ => fun
  | [d1, d2] => { results := [.lit (.bool true)], args := [d1, d2] }
  | _ => none }
def wireReadNumberMatchesSpecRow : OpenClaim := { program := "ytdandbhjmckmiaa", sum := "7820df4218c6e4b8286db695ecdcd5ef2ca731bd4dc698c1cf089b0f70cbb6fd", func := "scriptorium/scriptoriumlaw1.WireReadNumberMatchesSpec", spec := "wireReadNumberMatchesSpec", apart := false }
def WireReadNumberMatchesSpecSaid : Prop := wireReadNumberMatchesSpecRow.holds Try.pinned (OpenSpec.ofChange wireReadNumberMatchesSpecSpec)

/-- ITS FALSE NEIGHBOUR: 'it returns false'. Refute it at one input. -/
def wireReadNumberMatchesSpecWrong : ChangeSpec := { name := "wireReadNumberMatchesSpec", fn := fun _ => fun
  | [d1, d2] => { results := [.lit (.bool false)], args := [d1, d2] }
  | _ => none }
def WireReadNumberMatchesSpecWrongFalsely : Prop := wireReadNumberMatchesSpecRow.holds Try.pinned (OpenSpec.ofChange wireReadNumberMatchesSpecWrong)

/-- 'scriptoriumlaw1.WireReadChunkMatchesSpec': WHATEVER THE INPUT: true; the input reads as it did. -/
def wireReadChunkMatchesSpecSpec : ChangeSpec := { name := "wireReadChunkMatchesSpec", fn := fun _ => fun
  | [d1, d2] => { results := [.lit (.bool true)], args := [d1, d2] }
  | _ => none }
def wireReadChunkMatchesSpecRow : OpenClaim := { program := "ytdandbhjmckmiaa", sum := "7820df4218c6e4b8286db695ecdcd5ef2ca731bd4dc698c1cf089b0f70cbb6fd", func := "scriptorium/scriptoriumlaw1.WireReadChunkMatchesSpec", spec := "wireReadChunkMatchesSpec", apart := false }
def WireReadChunkMatchesSpecSaid : Prop := wireReadChunkMatchesSpecRow.holds Try.pinned (OpenSpec.ofChange wireReadChunkMatchesSpecSpec)

/-- ITS FALSE NEIGHBOUR: 'it returns false'. Refute it at one input. -/
def wireReadChunkMatchesSpecWrong : ChangeSpec := { name := "wireReadChunkMatchesSpec", fn := fun _ => fun
  | [d1, d2] => { results := [.lit (.bool false)], args := [d1, d2] }
  | _ => none }
def WireReadChunkMatchesSpecWrongFalsely : Prop := wireReadChunkMatchesSpecRow.holds Try.pinned (OpenSpec.ofChange wireReadChunkMatchesSpecWrong)

/-- 'scriptoriumlaw1.WireNumberRoundTrip': WHATEVER THE INPUT: true; the input reads as it did. -/
def wireNumberRoundTripSpec : ChangeSpec := { name := "wireNumberRoundTrip", fn := fun _ => fun
  | [d1, d2, d3] => { results := [.lit (.bool true)], args := [d1, d2, d3] }
  | _ => none }
def wireNumberRoundTripRow : OpenClaim := { program := "ytdandbhjmckmiaa", sum := "7820df4218c6e4b8286db695ecdcd5ef2ca731bd4dc698c1cf089b0f70cbb6fd", func := "scriptorium/scriptoriumlaw1.WireNumberRoundTrip", spec := "wireNumberRoundTrip", apart := false }
def WireNumberRoundTripSaid : Prop := wireNumberRoundTripRow.holds Try.pinned (OpenSpec.ofChange wireNumberRoundTripSpec)

/-- ITS FALSE NEIGHBOUR: 'it returns false'. Refute it at one input. -/
def wireNumberRoundTripWrong : ChangeSpec := { name := "wireNumberRoundTrip", fn := fun _ => fun
  | [d1, d2, d3] => { results := [.lit (.bool false)], args := [d1, d2, d3] }
  | _ => none }
def WireNumberRoundTripWrongFalsely : Prop := wireNumberRoundTripRow.holds Try.pinned (OpenSpec.ofChange wireNumberRoundTripWrong)

/-- 'scriptoriumlaw1.WirePrefixFree': WHATEVER THE INPUT: true; the input reads as it did. -/
def wirePrefixFreeSpec : ChangeSpec := { name := "wirePrefixFree", fn := fun _ => fun
  | [d1, d2] => { results := [.lit (.bool true)], args := [d1, d2] }
  | _ => none }
def wirePrefixFreeRow : OpenClaim := { program := "ytdandbhjmckmiaa", sum := "7820df4218c6e4b8286db695ecdcd5ef2ca731bd4dc698c1cf089b0f70cbb6fd", func := "scriptorium/scriptoriumlaw1.WirePrefixFree", spec := "wirePrefixFree", apart := false }
def WirePrefixFreeSaid : Prop := wirePrefixFreeRow.holds Try.pinned (OpenSpec.ofChange wirePrefixFreeSpec)

/-- ITS FALSE NEIGHBOUR: 'it returns false'. Refute it at one input. -/
def wirePrefixFreeWrong : ChangeSpec := { name := "wirePrefixFree", fn := fun _ => fun
  | [d1, d2] => { results := [.lit (.bool false)], args := [d1, d2] }
  | _ => none }
def WirePrefixFreeWrongFalsely : Prop := wirePrefixFreeRow.holds Try.pinned (OpenSpec.ofChange wirePrefixFreeWrong)

/-- 'scriptoriumlaw1.WireSliceOfNumbers': WHATEVER THE INPUT: true; the input reads as it did. -/
def wireSliceOfNumbersSpec : ChangeSpec := { name := "wireSliceOfNumbers", fn := fun _ => fun
  | [d] => { results := [.lit (.bool true)], args := [d] }
  | _ => none }
def wireSliceOfNumbersRow : OpenClaim := { program := "ytdandbhjmckmiaa", sum := "7820df4218c6e4b8286db695ecdcd5ef2ca731bd4dc698c1cf089b0f70cbb6fd", func := "scriptorium/scriptoriumlaw1.WireSliceOfNumbers", spec := "wireSliceOfNumbers", unfollowed := true, recurses := true, apart := false }
def WireSliceOfNumbersSaid : Prop := wireSliceOfNumbersRow.holds Try.pinned (OpenSpec.ofChange wireSliceOfNumbersSpec)

/-- ITS FALSE NEIGHBOUR: 'it returns false'. Refute it at one input. -/
def wireSliceOfNumbersWrong : ChangeSpec := { name := "wireSliceOfNumbers", fn := fun _ => fun
  | [d] => { results := [.lit (.bool false)], args := [d] }
  | _ => none }
def WireSliceOfNumbersWrongFalsely : Prop := wireSliceOfNumbersRow.holds Try.pinned (OpenSpec.ofChange wireSliceOfNumbersWrong)

/-- 'scriptoriumlaw1.WireListMatchesSpec': WHATEVER THE INPUT: true; the input reads as it did. -/
def wireListMatchesSpecSpec : ChangeSpec := { name := "wireListMatchesSpec", fn := fun _ => fun
  | [d] => { results := [.lit (.bool true)], args := [d] }
  | _ => none }
def wireListMatchesSpecRow : OpenClaim := { program := "ytdandbhjmckmiaa", sum := "7820df4218c6e4b8286db695ecdcd5ef2ca731bd4dc698c1cf089b0f70cbb6fd", func := "scriptorium/scriptoriumlaw1.WireListMatchesSpec", spec := "wireListMatchesSpec", unfollowed := true, recurses := true, apart := false }
def WireListMatchesSpecSaid : Prop := wireListMatchesSpecRow.holds Try.pinned (OpenSpec.ofChange wireListMatchesSpecSpec)

/-- ITS FALSE NEIGHBOUR: 'it returns false'. Refute it at one input. -/
def wireListMatchesSpecWrong : ChangeSpec := { name := "wireListMatchesSpec", fn := fun _ => fun
  | [d] => { results := [.lit (.bool false)], args := [d] }
  | _ => none }
def WireListMatchesSpecWrongFalsely : Prop := wireListMatchesSpecRow.holds Try.pinned (OpenSpec.ofChange wireListMatchesSpecWrong)

/-- 'scriptoriumlaw1.WireNumbersMatchSpec': WHATEVER THE INPUT: true; the input reads as it did. -/
def wireNumbersMatchSpecSpec : ChangeSpec := { name := "wireNumbersMatchSpec", fn := fun _ => fun
  | [d1, d2, d3] => { results := [.lit (.bool true)], args := [d1, d2, d3] }
  | _ => none }
def wireNumbersMatchSpecRow : OpenClaim := { program := "ytdandbhjmckmiaa", sum := "7820df4218c6e4b8286db695ecdcd5ef2ca731bd4dc698c1cf089b0f70cbb6fd", func := "scriptorium/scriptoriumlaw1.WireNumbersMatchSpec", spec := "wireNumbersMatchSpec", unfollowed := true, recurses := true, apart := false }
def WireNumbersMatchSpecSaid : Prop := wireNumbersMatchSpecRow.holds Try.pinned (OpenSpec.ofChange wireNumbersMatchSpecSpec)

/-- ITS FALSE NEIGHBOUR: 'it returns false'. Refute it at one input. -/
def wireNumbersMatchSpecWrong : ChangeSpec := { name := "wireNumbersMatchSpec", fn := fun _ => fun
  | [d1, d2, d3] => { results := [.lit (.bool false)], args := [d1, d2, d3] }
  | _ => none }
def WireNumbersMatchSpecWrongFalsely : Prop := wireNumbersMatchSpecRow.holds Try.pinned (OpenSpec.ofChange wireNumbersMatchSpecWrong)

/-- 'scriptoriumlaw1.WireReadListMatchesSpec': WHATEVER THE INPUT: true; the input reads as it did. -/
def wireReadListMatchesSpecSpec : ChangeSpec := { name := "wireReadListMatchesSpec", fn := fun _ => fun
  | [d] => { results := [.lit (.bool true)], args := [d] }
  | _ => none }
def wireReadListMatchesSpecRow : OpenClaim := { program := "ytdandbhjmckmiaa", sum := "7820df4218c6e4b8286db695ecdcd5ef2ca731bd4dc698c1cf089b0f70cbb6fd", func := "scriptorium/scriptoriumlaw1.WireReadListMatchesSpec", spec := "wireReadListMatchesSpec", unfollowed := true, recurses := true, apart := false }
def WireReadListMatchesSpecSaid : Prop := wireReadListMatchesSpecRow.holds Try.pinned (OpenSpec.ofChange wireReadListMatchesSpecSpec)

/-- ITS FALSE NEIGHBOUR: 'it returns false'. Refute it at one input. -/
def wireReadListMatchesSpecWrong : ChangeSpec := { name := "wireReadListMatchesSpec", fn := fun _ => fun
  | [d] => { results := [.lit (.bool false)], args := [d] }
  | _ => none }
def WireReadListMatchesSpecWrongFalsely : Prop := wireReadListMatchesSpecRow.holds Try.pinned (OpenSpec.ofChange wireReadListMatchesSpecWrong)

/-- 'scriptoriumlaw1.WireListRoundTrip': WHATEVER THE INPUT: true; the input reads as it did. -/
def wireListRoundTripSpec : ChangeSpec := { name := "wireListRoundTrip", fn := fun _ => fun
  | [d1, d2] => { results := [.lit (.bool true)], args := [d1, d2] }
  | _ => none }
def wireListRoundTripRow : OpenClaim := { program := "ytdandbhjmckmiaa", sum := "7820df4218c6e4b8286db695ecdcd5ef2ca731bd4dc698c1cf089b0f70cbb6fd", func := "scriptorium/scriptoriumlaw1.WireListRoundTrip", spec := "wireListRoundTrip", unfollowed := true, recurses := true, apart := false }
def WireListRoundTripSaid : Prop := wireListRoundTripRow.holds Try.pinned (OpenSpec.ofChange wireListRoundTripSpec)

/-- ITS FALSE NEIGHBOUR: 'it returns false'. Refute it at one input. -/
def wireListRoundTripWrong : ChangeSpec := { name := "wireListRoundTrip", fn := fun _ => fun
  | [d1, d2] => { results := [.lit (.bool false)], args := [d1, d2] }
  | _ => none }
def WireListRoundTripWrongFalsely : Prop := wireListRoundTripRow.holds Try.pinned (OpenSpec.ofChange wireListRoundTripWrong)

/-- 'scriptoriumlaw1.WireListUnique': WHATEVER THE INPUT: true; the input reads as it did. -/
def wireListUniqueSpec : ChangeSpec := { name := "wireListUnique", fn := fun _ => fun
  | [d] => { results := [.lit (.bool true)], args := [d] }
  | _ => none }
def wireListUniqueRow : OpenClaim := { program := "ytdandbhjmckmiaa", sum := "7820df4218c6e4b8286db695ecdcd5ef2ca731bd4dc698c1cf089b0f70cbb6fd", func := "scriptorium/scriptoriumlaw1.WireListUnique", spec := "wireListUnique", unfollowed := true, recurses := true, apart := false }
def WireListUniqueSaid : Prop := wireListUniqueRow.holds Try.pinned (OpenSpec.ofChange wireListUniqueSpec)

/-- ITS FALSE NEIGHBOUR: 'it returns false'. Refute it at one input. -/
def wireListUniqueWrong : ChangeSpec := { name := "wireListUnique", fn := fun _ => fun
  | [d] => { results := [.lit (.bool false)], args := [d] }
  | _ => none }
def WireListUniqueWrongFalsely : Prop := wireListUniqueRow.holds Try.pinned (OpenSpec.ofChange wireListUniqueWrong)

/- THE SECOND FORM. 'bulk': how many values and letters a reading holds, each counted each time it is reached (what is shared counts as often as it is met; a slice's spare places count too). A statement '..UptoSaid' is the law's where the arguments, and the package variables that the reading takes, are together of bulk at most 1048576: NARROWER than '..Said'. Prove '..Said' where nothing that the law and all that it calls make is longer than what came in: it says more and counts as full. Else prove '..UptoSaid'. A law counts once. -/
mutual
def uptoBulk {H : Type} : DataW H → Nat
  | .lit (.string bytes) => bytes.length + 1
  | .lit _ => 1
  | .nil => 1
  | .ptr d => uptoBulk d + 1
  | .slice elems spare => uptoBulkAll elems + uptoBulkAll spare + 1
  | .agg parts => uptoBulkAll parts + 1
  | .iface _ d => uptoBulk d + 1
  | .map entries => uptoBulkEntries entries + 1
  | .held _ => 1
def uptoBulkAll {H : Type} : List (DataW H) → Nat
  | [] => 0
  | d :: r => uptoBulk d + uptoBulkAll r
def uptoBulkEntries {H : Type} : List (Lit × DataW H) → Nat
  | [] => 0
  | x :: r => uptoBulkEntry x + uptoBulkEntries r
def uptoBulkEntry {H : Type} : Lit × DataW H → Nat
  | (.string bytes, d) => bytes.length + uptoBulk d + 1
  | (_, d) => uptoBulk d + 1
 end
def uptoSmall : (H : Type) → List (DataW H) → Bool := fun _ ds => decide (uptoBulkAll ds ≤ 1048576)
def OpenSpec.upto (s : _root_.Go.ChangeSpec) : _root_.Go.OpenSpec := { _root_.Go.OpenSpec.ofChange s with cond := some uptoSmall }

/-- 'scriptoriumlaw1.WireNumberMatchesSpec', WHERE WHAT IT READS IS OF BULK AT MOST 1048576: true; the input reads as it did. -/
def wireNumberMatchesSpecUptoRow : OpenClaim := { program := "ytdandbhjmckmiaa", sum := "7820df4218c6e4b8286db695ecdcd5ef2ca731bd4dc698c1cf089b0f70cbb6fd", func := "scriptorium/scriptoriumlaw1.WireNumberMatchesSpec", spec := "wireNumberMatchesSpec", apart := false, narrowed := true }
def WireNumberMatchesSpecUptoSaid : Prop := wireNumberMatchesSpecUptoRow.holds Try.pinned (OpenSpec.upto wireNumberMatchesSpecSpec)

/-- 'scriptoriumlaw1.WireReadNumberMatchesSpec', WHERE WHAT IT READS IS OF BULK AT MOST 1048576: true; the input reads as it did. -/
def wireReadNumberMatchesSpecUptoRow : OpenClaim := { program := "ytdandbhjmckmiaa", sum := "7820df4218c6e4b8286db695ecdcd5ef2ca731bd4dc698c1cf089b0f70cbb6fd", func := "scriptorium/scriptoriumlaw1.WireReadNumberMatchesSpec", spec := "wireReadNumberMatchesSpec", apart := false, narrowed := true }
def WireReadNumberMatchesSpecUptoSaid : Prop := wireReadNumberMatchesSpecUptoRow.holds Try.pinned (OpenSpec.upto wireReadNumberMatchesSpecSpec)

/-- 'scriptoriumlaw1.WireReadChunkMatchesSpec', WHERE WHAT IT READS IS OF BULK AT MOST 1048576: true; the input reads as it did. -/
def wireReadChunkMatchesSpecUptoRow : OpenClaim := { program := "ytdandbhjmckmiaa", sum := "7820df4218c6e4b8286db695ecdcd5ef2ca731bd4dc698c1cf089b0f70cbb6fd", func := "scriptorium/scriptoriumlaw1.WireReadChunkMatchesSpec", spec := "wireReadChunkMatchesSpec", apart := false, narrowed := true }
def WireReadChunkMatchesSpecUptoSaid : Prop := wireReadChunkMatchesSpecUptoRow.holds Try.pinned (OpenSpec.upto wireReadChunkMatchesSpecSpec)

/-- 'scriptoriumlaw1.WireNumberRoundTrip', WHERE WHAT IT READS IS OF BULK AT MOST 1048576: true; the input reads as it did. -/
def wireNumberRoundTripUptoRow : OpenClaim := { program := "ytdandbhjmckmiaa", sum := "7820df4218c6e4b8286db695ecdcd5ef2ca731bd4dc698c1cf089b0f70cbb6fd", func := "scriptorium/scriptoriumlaw1.WireNumberRoundTrip", spec := "wireNumberRoundTrip", apart := false, narrowed := true }
def WireNumberRoundTripUptoSaid : Prop := wireNumberRoundTripUptoRow.holds Try.pinned (OpenSpec.upto wireNumberRoundTripSpec)

/-- 'scriptoriumlaw1.WirePrefixFree', WHERE WHAT IT READS IS OF BULK AT MOST 1048576: true; the input reads as it did. -/
def wirePrefixFreeUptoRow : OpenClaim := { program := "ytdandbhjmckmiaa", sum := "7820df4218c6e4b8286db695ecdcd5ef2ca731bd4dc698c1cf089b0f70cbb6fd", func := "scriptorium/scriptoriumlaw1.WirePrefixFree", spec := "wirePrefixFree", apart := false, narrowed := true }
def WirePrefixFreeUptoSaid : Prop := wirePrefixFreeUptoRow.holds Try.pinned (OpenSpec.upto wirePrefixFreeSpec)

/-- 'scriptoriumlaw1.WireSliceOfNumbers', WHERE WHAT IT READS IS OF BULK AT MOST 1048576: true; the input reads as it did. -/
def wireSliceOfNumbersUptoRow : OpenClaim := { program := "ytdandbhjmckmiaa", sum := "7820df4218c6e4b8286db695ecdcd5ef2ca731bd4dc698c1cf089b0f70cbb6fd", func := "scriptorium/scriptoriumlaw1.WireSliceOfNumbers", spec := "wireSliceOfNumbers", unfollowed := true, recurses := true, apart := false, narrowed := true }
def WireSliceOfNumbersUptoSaid : Prop := wireSliceOfNumbersUptoRow.holds Try.pinned (OpenSpec.upto wireSliceOfNumbersSpec)

/-- 'scriptoriumlaw1.WireListMatchesSpec', WHERE WHAT IT READS IS OF BULK AT MOST 1048576: true; the input reads as it did. -/
def wireListMatchesSpecUptoRow : OpenClaim := { program := "ytdandbhjmckmiaa", sum := "7820df4218c6e4b8286db695ecdcd5ef2ca731bd4dc698c1cf089b0f70cbb6fd", func := "scriptorium/scriptoriumlaw1.WireListMatchesSpec", spec := "wireListMatchesSpec", unfollowed := true, recurses := true, apart := false, narrowed := true }
def WireListMatchesSpecUptoSaid : Prop := wireListMatchesSpecUptoRow.holds Try.pinned (OpenSpec.upto wireListMatchesSpecSpec)

/-- 'scriptoriumlaw1.WireNumbersMatchSpec', WHERE WHAT IT READS IS OF BULK AT MOST 1048576: true; the input reads as it did. -/
def wireNumbersMatchSpecUptoRow : OpenClaim := { program := "ytdandbhjmckmiaa", sum := "7820df4218c6e4b8286db695ecdcd5ef2ca731bd4dc698c1cf089b0f70cbb6fd", func := "scriptorium/scriptoriumlaw1.WireNumbersMatchSpec", spec := "wireNumbersMatchSpec", unfollowed := true, recurses := true, apart := false, narrowed := true }
def WireNumbersMatchSpecUptoSaid : Prop := wireNumbersMatchSpecUptoRow.holds Try.pinned (OpenSpec.upto wireNumbersMatchSpecSpec)

/-- 'scriptoriumlaw1.WireReadListMatchesSpec', WHERE WHAT IT READS IS OF BULK AT MOST 1048576: true; the input reads as it did. -/
def wireReadListMatchesSpecUptoRow : OpenClaim := { program := "ytdandbhjmckmiaa", sum := "7820df4218c6e4b8286db695ecdcd5ef2ca731bd4dc698c1cf089b0f70cbb6fd", func := "scriptorium/scriptoriumlaw1.WireReadListMatchesSpec", spec := "wireReadListMatchesSpec", unfollowed := true, recurses := true, apart := false, narrowed := true }
def WireReadListMatchesSpecUptoSaid : Prop := wireReadListMatchesSpecUptoRow.holds Try.pinned (OpenSpec.upto wireReadListMatchesSpecSpec)

/-- 'scriptoriumlaw1.WireListRoundTrip', WHERE WHAT IT READS IS OF BULK AT MOST 1048576: true; the input reads as it did. -/
def wireListRoundTripUptoRow : OpenClaim := { program := "ytdandbhjmckmiaa", sum := "7820df4218c6e4b8286db695ecdcd5ef2ca731bd4dc698c1cf089b0f70cbb6fd", func := "scriptorium/scriptoriumlaw1.WireListRoundTrip", spec := "wireListRoundTrip", unfollowed := true, recurses := true, apart := false, narrowed := true }
def WireListRoundTripUptoSaid : Prop := wireListRoundTripUptoRow.holds Try.pinned (OpenSpec.upto wireListRoundTripSpec)

/-- 'scriptoriumlaw1.WireListUnique', WHERE WHAT IT READS IS OF BULK AT MOST 1048576: true; the input reads as it did. -/
def wireListUniqueUptoRow : OpenClaim := { program := "ytdandbhjmckmiaa", sum := "7820df4218c6e4b8286db695ecdcd5ef2ca731bd4dc698c1cf089b0f70cbb6fd", func := "scriptorium/scriptoriumlaw1.WireListUnique", spec := "wireListUnique", unfollowed := true, recurses := true, apart := false, narrowed := true }
def WireListUniqueUptoSaid : Prop := wireListUniqueUptoRow.holds Try.pinned (OpenSpec.upto wireListUniqueSpec)

end Rows
end Go.Proofs.Ytdandbhjmckmiaa
