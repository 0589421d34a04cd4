/-
  NARROWER THAN 'FOR EVERY INPUT', by the rows' own cells (each row's printed sentence says how): ValueValidateMatchesSpec: loops · ValueEncodeMatchesSpec: loops · ValueRoundTrip: loops · ValueAtMatchesSpec: loops · ValuePathsCompose: loops · ValueFindMatchesSpec: loops · ValueWalkMatchesSpec: loops · ValueCompareOrders: loops · ValueReplaceMatchesSpec: loops.
  DERIVED. THE GIVEN ROWS OF THIS SEAT. 10 by the template 'for every input the law returns true; each argument reads behind the call as it read before'; 0 by the template 'total and deterministic' (their statements: YtolognhjdmkohaaTotals.lean).
  GIVEN WITH THE SEED: the statements are not yours to turn. If you find one false, say at which input.
  Laid BY PROGRAM, IN A SANDBOX (cutbox-rows.mjs): the forced cells as the released guide's own fill.sh prints them over the translation c0db59c9d6d2e0d9… (all of the seat's roots in one cut). By AI agents, Wed Nov 11 2026. No macro, syntax, notation, axiom, sorry.
-/
import Derived.Test.YtolognhjdmkohaaChecked
import GoSem.Claim
import GoSem.ClaimJoined
import GoSem.ClaimMapViews
import Derived.JoinedTies
import Derived.KernelRfl
namespace Go.Proofs.Ytolognhjdmkohaa
/- THE CELL 'sum', in the pinned program and in every row, IS THE sha256 OF THE DUMP (.gsa) THAT YtolognhjdmkohaaProg.lean LOADS. Nothing in Lean hashes anything: it is a label: what it is worth is what the hold of that sum in a sandbox is worth. -/
noncomputable def Try.pinned : Pinned := { name := "ytolognhjdmkohaa", sum := "c0db59c9d6d2e0d918477517a5fd29ec6f82ae975729f3c96c968721d47c39bf", checked := Try.checked }
namespace Rows
def none {H : Type} : Left H := { results := [], args := [] }

/-- 'scriptoriumlaw1.ValueValidateMatchesSpec': WHATEVER THE INPUT: true; the input reads as it did. -/
def valueValidateMatchesSpecSpec : ChangeSpec := { name := "valueValidateMatchesSpec", fn := fun _ => fun
  | [d] => { results := [.lit (.bool true)], args := [d] }
  | _ => none }
def valueValidateMatchesSpecRow : OpenClaim := { program := "ytolognhjdmkohaa", sum := "c0db59c9d6d2e0d918477517a5fd29ec6f82ae975729f3c96c968721d47c39bf", func := "scriptorium/scriptoriumlaw1.ValueValidateMatchesSpec", spec := "valueValidateMatchesSpec", inPlace := ["internal/bytealg.IndexByteString", "internal/bytealg.IndexString"], unfollowed := true, recurses := true, named := ["internal/bytealg.MaxLen"], loops := true, apart := false }
def ValueValidateMatchesSpecSaid : Prop := valueValidateMatchesSpecRow.holds Try.pinned (OpenSpec.ofChange valueValidateMatchesSpecSpec)

/-- ITS FALSE NEIGHBOUR: 'it returns false'. Refute it at one input. -/
def valueValidateMatchesSpecWrong : ChangeSpec := { name := "valueValidateMatchesSpec", fn := fun _ => fun
  | [d] => { results := [.lit (.bool false)], args := [d] }
  | _ => none }
def ValueValidateMatchesSpecWrongFalsely : Prop := valueValidateMatchesSpecRow.holds Try.pinned (OpenSpec.ofChange valueValidateMatchesSpecWrong)

/-- 'scriptoriumlaw1.ValueEncodeMatchesSpec': WHATEVER THE INPUT: true; the input reads as it did. -/
def valueEncodeMatchesSpecSpec : ChangeSpec := { name := "valueEncodeMatchesSpec", fn := fun _ => fun
  | [d] => { results := [.lit (.bool true)], args := [d] }
  | _ => none }
def valueEncodeMatchesSpecRow : OpenClaim := { program := "ytolognhjdmkohaa", sum := "c0db59c9d6d2e0d918477517a5fd29ec6f82ae975729f3c96c968721d47c39bf", func := "scriptorium/scriptoriumlaw1.ValueEncodeMatchesSpec", spec := "valueEncodeMatchesSpec", inPlace := ["internal/bytealg.IndexByteString", "internal/bytealg.IndexString"], unfollowed := true, recurses := true, named := ["internal/bytealg.MaxLen"], loops := true, apart := false }
def ValueEncodeMatchesSpecSaid : Prop := valueEncodeMatchesSpecRow.holds Try.pinned (OpenSpec.ofChange valueEncodeMatchesSpecSpec)

/-- ITS FALSE NEIGHBOUR: 'it returns false'. Refute it at one input. -/
def valueEncodeMatchesSpecWrong : ChangeSpec := { name := "valueEncodeMatchesSpec", fn := fun _ => fun
  | [d] => { results := [.lit (.bool false)], args := [d] }
  | _ => none }
def ValueEncodeMatchesSpecWrongFalsely : Prop := valueEncodeMatchesSpecRow.holds Try.pinned (OpenSpec.ofChange valueEncodeMatchesSpecWrong)

/-- 'scriptoriumlaw1.ValueDecodeMatchesSpec': WHATEVER THE INPUT: true; the input reads as it did. -/
def valueDecodeMatchesSpecSpec : ChangeSpec := { name := "valueDecodeMatchesSpec", fn := fun _ => fun
  | [d] => { results := [.lit (.bool true)], args := [d] }
  | _ => none }
def valueDecodeMatchesSpecRow : OpenClaim := { program := "ytolognhjdmkohaa", sum := "c0db59c9d6d2e0d918477517a5fd29ec6f82ae975729f3c96c968721d47c39bf", func := "scriptorium/scriptoriumlaw1.ValueDecodeMatchesSpec", spec := "valueDecodeMatchesSpec", inPlace := ["internal/bytealg.IndexByteString", "internal/bytealg.IndexString"], unfollowed := true, recurses := true, named := ["internal/bytealg.MaxLen"], apart := false }
def ValueDecodeMatchesSpecSaid : Prop := valueDecodeMatchesSpecRow.holds Try.pinned (OpenSpec.ofChange valueDecodeMatchesSpecSpec)

/-- ITS FALSE NEIGHBOUR: 'it returns false'. Refute it at one input. -/
def valueDecodeMatchesSpecWrong : ChangeSpec := { name := "valueDecodeMatchesSpec", fn := fun _ => fun
  | [d] => { results := [.lit (.bool false)], args := [d] }
  | _ => none }
def ValueDecodeMatchesSpecWrongFalsely : Prop := valueDecodeMatchesSpecRow.holds Try.pinned (OpenSpec.ofChange valueDecodeMatchesSpecWrong)

/-- 'scriptoriumlaw1.ValueRoundTrip': WHATEVER THE INPUT: true; the input reads as it did. -/
def valueRoundTripSpec : ChangeSpec := { name := "valueRoundTrip", fn := fun _ => fun
  | [d1, d2, d3] => { results := [.lit (.bool true)], args := [d1, d2, d3] }
  | _ => none }
def valueRoundTripRow : OpenClaim := { program := "ytolognhjdmkohaa", sum := "c0db59c9d6d2e0d918477517a5fd29ec6f82ae975729f3c96c968721d47c39bf", func := "scriptorium/scriptoriumlaw1.ValueRoundTrip", spec := "valueRoundTrip", inPlace := ["internal/bytealg.IndexByteString", "internal/bytealg.IndexString"], unfollowed := true, recurses := true, named := ["internal/bytealg.MaxLen"], loops := true, apart := false }
def ValueRoundTripSaid : Prop := valueRoundTripRow.holds Try.pinned (OpenSpec.ofChange valueRoundTripSpec)

/-- ITS FALSE NEIGHBOUR: 'it returns false'. Refute it at one input. -/
def valueRoundTripWrong : ChangeSpec := { name := "valueRoundTrip", fn := fun _ => fun
  | [d1, d2, d3] => { results := [.lit (.bool false)], args := [d1, d2, d3] }
  | _ => none }
def ValueRoundTripWrongFalsely : Prop := valueRoundTripRow.holds Try.pinned (OpenSpec.ofChange valueRoundTripWrong)

/-- 'scriptoriumlaw1.ValueAtMatchesSpec': WHATEVER THE INPUT: true; the input reads as it did. -/
def valueAtMatchesSpecSpec : ChangeSpec := { name := "valueAtMatchesSpec", fn := fun _ => fun
  | [d1, d2] => { results := [.lit (.bool true)], args := [d1, d2] }
  | _ => none }
def valueAtMatchesSpecRow : OpenClaim := { program := "ytolognhjdmkohaa", sum := "c0db59c9d6d2e0d918477517a5fd29ec6f82ae975729f3c96c968721d47c39bf", func := "scriptorium/scriptoriumlaw1.ValueAtMatchesSpec", spec := "valueAtMatchesSpec", inPlace := ["internal/bytealg.IndexByteString", "internal/bytealg.IndexString"], unfollowed := true, recurses := true, named := ["internal/bytealg.MaxLen"], loops := true, apart := false }
def ValueAtMatchesSpecSaid : Prop := valueAtMatchesSpecRow.holds Try.pinned (OpenSpec.ofChange valueAtMatchesSpecSpec)

/-- ITS FALSE NEIGHBOUR: 'it returns false'. Refute it at one input. -/
def valueAtMatchesSpecWrong : ChangeSpec := { name := "valueAtMatchesSpec", fn := fun _ => fun
  | [d1, d2] => { results := [.lit (.bool false)], args := [d1, d2] }
  | _ => none }
def ValueAtMatchesSpecWrongFalsely : Prop := valueAtMatchesSpecRow.holds Try.pinned (OpenSpec.ofChange valueAtMatchesSpecWrong)

/-- 'scriptoriumlaw1.ValuePathsCompose': WHATEVER THE INPUT: true; the input reads as it did. -/
def valuePathsComposeSpec : ChangeSpec := { name := "valuePathsCompose", fn := fun _ => fun
  | [d1, d2, d3] => { results := [.lit (.bool true)], args := [d1, d2, d3] }
  | _ => none }
def valuePathsComposeRow : OpenClaim := { program := "ytolognhjdmkohaa", sum := "c0db59c9d6d2e0d918477517a5fd29ec6f82ae975729f3c96c968721d47c39bf", func := "scriptorium/scriptoriumlaw1.ValuePathsCompose", spec := "valuePathsCompose", inPlace := ["internal/bytealg.IndexByteString", "internal/bytealg.IndexString"], unfollowed := true, recurses := true, named := ["internal/bytealg.MaxLen"], loops := true, apart := false }
def ValuePathsComposeSaid : Prop := valuePathsComposeRow.holds Try.pinned (OpenSpec.ofChange valuePathsComposeSpec)

/-- ITS FALSE NEIGHBOUR: 'it returns false'. Refute it at one input. -/
def valuePathsComposeWrong : ChangeSpec := { name := "valuePathsCompose", fn := fun _ => fun
  | [d1, d2, d3] => { results := [.lit (.bool false)], args := [d1, d2, d3] }
  | _ => none }
def ValuePathsComposeWrongFalsely : Prop := valuePathsComposeRow.holds Try.pinned (OpenSpec.ofChange valuePathsComposeWrong)

/-- 'scriptoriumlaw1.ValueFindMatchesSpec': WHATEVER THE INPUT: true; the input reads as it did. -/
def valueFindMatchesSpecSpec : ChangeSpec := { name := "valueFindMatchesSpec", fn := fun _ => fun
  | [d1, d2] => { results := [.lit (.bool true)], args := [d1, d2] }
  | _ => none }
def valueFindMatchesSpecRow : OpenClaim := { program := "ytolognhjdmkohaa", sum := "c0db59c9d6d2e0d918477517a5fd29ec6f82ae975729f3c96c968721d47c39bf", func := "scriptorium/scriptoriumlaw1.ValueFindMatchesSpec", spec := "valueFindMatchesSpec", inPlace := ["internal/bytealg.IndexByteString", "internal/bytealg.IndexString"], unfollowed := true, recurses := true, named := ["internal/bytealg.MaxLen"], loops := true, apart := false }
def ValueFindMatchesSpecSaid : Prop := valueFindMatchesSpecRow.holds Try.pinned (OpenSpec.ofChange valueFindMatchesSpecSpec)

/-- ITS FALSE NEIGHBOUR: 'it returns false'. Refute it at one input. -/
def valueFindMatchesSpecWrong : ChangeSpec := { name := "valueFindMatchesSpec", fn := fun _ => fun
  | [d1, d2] => { results := [.lit (.bool false)], args := [d1, d2] }
  | _ => none }
def ValueFindMatchesSpecWrongFalsely : Prop := valueFindMatchesSpecRow.holds Try.pinned (OpenSpec.ofChange valueFindMatchesSpecWrong)

/-- 'scriptoriumlaw1.ValueWalkMatchesSpec': WHATEVER THE INPUT: true; the input reads as it did. -/
def valueWalkMatchesSpecSpec : ChangeSpec := { name := "valueWalkMatchesSpec", fn := fun _ => fun
  | [d1, d2] => { results := [.lit (.bool true)], args := [d1, d2] }
  | _ => none }
def valueWalkMatchesSpecRow : OpenClaim := { program := "ytolognhjdmkohaa", sum := "c0db59c9d6d2e0d918477517a5fd29ec6f82ae975729f3c96c968721d47c39bf", func := "scriptorium/scriptoriumlaw1.ValueWalkMatchesSpec", spec := "valueWalkMatchesSpec", inPlace := ["internal/bytealg.IndexByteString", "internal/bytealg.IndexString"], unfollowed := true, recurses := true, named := ["internal/bytealg.MaxLen"], loops := true, apart := false }
def ValueWalkMatchesSpecSaid : Prop := valueWalkMatchesSpecRow.holds Try.pinned (OpenSpec.ofChange valueWalkMatchesSpecSpec)

/-- ITS FALSE NEIGHBOUR: 'it returns false'. Refute it at one input. -/
def valueWalkMatchesSpecWrong : ChangeSpec := { name := "valueWalkMatchesSpec", fn := fun _ => fun
  | [d1, d2] => { results := [.lit (.bool false)], args := [d1, d2] }
  | _ => none }
def ValueWalkMatchesSpecWrongFalsely : Prop := valueWalkMatchesSpecRow.holds Try.pinned (OpenSpec.ofChange valueWalkMatchesSpecWrong)

/-- 'scriptoriumlaw1.ValueCompareOrders': WHATEVER THE INPUT: true; the input reads as it did. -/
def valueCompareOrdersSpec : ChangeSpec := { name := "valueCompareOrders", fn := fun _ => fun
  | [d1, d2, d3] => { results := [.lit (.bool true)], args := [d1, d2, d3] }
  | _ => none }
def valueCompareOrdersRow : OpenClaim := { program := "ytolognhjdmkohaa", sum := "c0db59c9d6d2e0d918477517a5fd29ec6f82ae975729f3c96c968721d47c39bf", func := "scriptorium/scriptoriumlaw1.ValueCompareOrders", spec := "valueCompareOrders", inPlace := ["internal/bytealg.IndexByteString", "internal/bytealg.IndexString", "internal/bytealg.Compare"], unfollowed := true, recurses := true, named := ["internal/bytealg.MaxLen"], loops := true, apart := false }
def ValueCompareOrdersSaid : Prop := valueCompareOrdersRow.holds Try.pinned (OpenSpec.ofChange valueCompareOrdersSpec)

/-- ITS FALSE NEIGHBOUR: 'it returns false'. Refute it at one input. -/
def valueCompareOrdersWrong : ChangeSpec := { name := "valueCompareOrders", fn := fun _ => fun
  | [d1, d2, d3] => { results := [.lit (.bool false)], args := [d1, d2, d3] }
  | _ => none }
def ValueCompareOrdersWrongFalsely : Prop := valueCompareOrdersRow.holds Try.pinned (OpenSpec.ofChange valueCompareOrdersWrong)

/-- 'scriptoriumlaw1.ValueReplaceMatchesSpec': WHATEVER THE INPUT: true; the input reads as it did. -/
def valueReplaceMatchesSpecSpec : ChangeSpec := { name := "valueReplaceMatchesSpec", fn := fun _ => fun
  | [d1, d2, d3] => { results := [.lit (.bool true)], args := [d1, d2, d3] }
  | _ => none }
def valueReplaceMatchesSpecRow : OpenClaim := { program := "ytolognhjdmkohaa", sum := "c0db59c9d6d2e0d918477517a5fd29ec6f82ae975729f3c96c968721d47c39bf", func := "scriptorium/scriptoriumlaw1.ValueReplaceMatchesSpec", spec := "valueReplaceMatchesSpec", inPlace := ["internal/bytealg.IndexByteString", "internal/bytealg.IndexString"], unfollowed := true, recurses := true, named := ["internal/bytealg.MaxLen"], loops := true, apart := false }
def ValueReplaceMatchesSpecSaid : Prop := valueReplaceMatchesSpecRow.holds Try.pinned (OpenSpec.ofChange valueReplaceMatchesSpecSpec)

/-- ITS FALSE NEIGHBOUR: 'it returns false'. Refute it at one input. -/
def valueReplaceMatchesSpecWrong : ChangeSpec := { name := "valueReplaceMatchesSpec", fn := fun _ => fun
  | [d1, d2, d3] => { results := [.lit (.bool false)], args := [d1, d2, d3] }
  | _ => none }
def ValueReplaceMatchesSpecWrongFalsely : Prop := valueReplaceMatchesSpecRow.holds Try.pinned (OpenSpec.ofChange valueReplaceMatchesSpecWrong)

/- THE SECOND FORM. 'bulk': how many values and letters a reading holds, each counted each time it is reached (what is shared counts as often as it is met; a slice's spare places count too). A statement '..UptoSaid' is the law's where the arguments, and the package variables that the reading takes, are together of bulk at most 1048576: NARROWER than '..Said'. Prove '..Said' where nothing that the law and all that it calls make is longer than what came in: it says more and counts as full. Else prove '..UptoSaid'. A law counts once. -/
mutual
def uptoBulk {H : Type} : DataW H → Nat
  | .lit (.string bytes) => bytes.length + 1
  | .lit _ => 1
  | .nil => 1
  | .ptr d => uptoBulk d + 1
  | .slice elems spare => uptoBulkAll elems + uptoBulkAll spare + 1
  | .agg parts => uptoBulkAll parts + 1
  | .iface _ d => uptoBulk d + 1
  | .map entries => uptoBulkEntries entries + 1
  | .held _ => 1
def uptoBulkAll {H : Type} : List (DataW H) → Nat
  | [] => 0
  | d :: r => uptoBulk d + uptoBulkAll r
def uptoBulkEntries {H : Type} : List (Lit × DataW H) → Nat
  | [] => 0
  | x :: r => uptoBulkEntry x + uptoBulkEntries r
def uptoBulkEntry {H : Type} : Lit × DataW H → Nat
  | (.string bytes, d) => bytes.length + uptoBulk d + 1
  | (_, d) => uptoBulk d + 1
 end
def uptoSmall : (H : Type) → List (DataW H) → Bool := fun _ ds => decide (uptoBulkAll ds ≤ 1048576)
def OpenSpec.upto (s : _root_.Go.ChangeSpec) : _root_.Go.OpenSpec := { _root_.Go.OpenSpec.ofChange s with cond := some uptoSmall }

/-- 'scriptoriumlaw1.ValueValidateMatchesSpec', WHERE WHAT IT READS IS OF BULK AT MOST 1048576: true; the input reads as it did. -/
def valueValidateMatchesSpecUptoRow : OpenClaim := { program := "ytolognhjdmkohaa", sum := "c0db59c9d6d2e0d918477517a5fd29ec6f82ae975729f3c96c968721d47c39bf", func := "scriptorium/scriptoriumlaw1.ValueValidateMatchesSpec", spec := "valueValidateMatchesSpec", inPlace := ["internal/bytealg.IndexByteString", "internal/bytealg.IndexString"], unfollowed := true, recurses := true, named := ["internal/bytealg.MaxLen"], loops := true, apart := false, narrowed := true }
def ValueValidateMatchesSpecUptoSaid : Prop := valueValidateMatchesSpecUptoRow.holds Try.pinned (OpenSpec.upto valueValidateMatchesSpecSpec)

/-- 'scriptoriumlaw1.ValueEncodeMatchesSpec', WHERE WHAT IT READS IS OF BULK AT MOST 1048576: true; the input reads as it did. -/
def valueEncodeMatchesSpecUptoRow : OpenClaim := { program := "ytolognhjdmkohaa", sum := "c0db59c9d6d2e0d918477517a5fd29ec6f82ae975729f3c96c968721d47c39bf", func := "scriptorium/scriptoriumlaw1.ValueEncodeMatchesSpec", spec := "valueEncodeMatchesSpec", inPlace := ["internal/bytealg.IndexByteString", "internal/bytealg.IndexString"], unfollowed := true, recurses := true, named := ["internal/bytealg.MaxLen"], loops := true, apart := false, narrowed := true }
def ValueEncodeMatchesSpecUptoSaid : Prop := valueEncodeMatchesSpecUptoRow.holds Try.pinned (OpenSpec.upto valueEncodeMatchesSpecSpec)

/-- 'scriptoriumlaw1.ValueDecodeMatchesSpec', WHERE WHAT IT READS IS OF BULK AT MOST 1048576: true; the input reads as it did. -/
def valueDecodeMatchesSpecUptoRow : OpenClaim := { program := "ytolognhjdmkohaa", sum := "c0db59c9d6d2e0d918477517a5fd29ec6f82ae975729f3c96c968721d47c39bf", func := "scriptorium/scriptoriumlaw1.ValueDecodeMatchesSpec", spec := "valueDecodeMatchesSpec", inPlace := ["internal/bytealg.IndexByteString", "internal/bytealg.IndexString"], unfollowed := true, recurses := true, named := ["internal/bytealg.MaxLen"], apart := false, narrowed := true }
def ValueDecodeMatchesSpecUptoSaid : Prop := valueDecodeMatchesSpecUptoRow.holds Try.pinned (OpenSpec.upto valueDecodeMatchesSpecSpec)

/-- 'scriptoriumlaw1.ValueRoundTrip', WHERE WHAT IT READS IS OF BULK AT MOST 1048576: true; the input reads as it did. -/
def valueRoundTripUptoRow : OpenClaim := { program := "ytolognhjdmkohaa", sum := "c0db59c9d6d2e0d918477517a5fd29ec6f82ae975729f3c96c968721d47c39bf", func := "scriptorium/scriptoriumlaw1.ValueRoundTrip", spec := "valueRoundTrip", inPlace := ["internal/bytealg.IndexByteString", "internal/bytealg.IndexString"], unfollowed := true, recurses := true, named := ["internal/bytealg.MaxLen"], loops := true, apart := false, narrowed := true }
def ValueRoundTripUptoSaid : Prop := valueRoundTripUptoRow.holds Try.pinned (OpenSpec.upto valueRoundTripSpec)

/-- 'scriptoriumlaw1.ValueAtMatchesSpec', WHERE WHAT IT READS IS OF BULK AT MOST 1048576: true; the input reads as it did. -/
def valueAtMatchesSpecUptoRow : OpenClaim := { program := "ytolognhjdmkohaa", sum := "c0db59c9d6d2e0d918477517a5fd29ec6f82ae975729f3c96c968721d47c39bf", func := "scriptorium/scriptoriumlaw1.ValueAtMatchesSpec", spec := "valueAtMatchesSpec", inPlace := ["internal/bytealg.IndexByteString", "internal/bytealg.IndexString"], unfollowed := true, recurses := true, named := ["internal/bytealg.MaxLen"], loops := true, apart := false, narrowed := true }
def ValueAtMatchesSpecUptoSaid : Prop := valueAtMatchesSpecUptoRow.holds Try.pinned (OpenSpec.upto valueAtMatchesSpecSpec)

/-- 'scriptoriumlaw1.ValuePathsCompose', WHERE WHAT IT READS IS OF BULK AT MOST 1048576: true; the input reads as it did. -/
def valuePathsComposeUptoRow : OpenClaim := { program := "ytolognhjdmkohaa", sum := "c0db59c9d6d2e0d918477517a5fd29ec6f82ae975729f3c96c968721d47c39bf", func := "scriptorium/scriptoriumlaw1.ValuePathsCompose", spec := "valuePathsCompose", inPlace := ["internal/bytealg.IndexByteString", "internal/bytealg.IndexString"], unfollowed := true, recurses := true, named := ["internal/bytealg.MaxLen"], loops := true, apart := false, narrowed := true }
def ValuePathsComposeUptoSaid : Prop := valuePathsComposeUptoRow.holds Try.pinned (OpenSpec.upto valuePathsComposeSpec)

/-- 'scriptoriumlaw1.ValueFindMatchesSpec', WHERE WHAT IT READS IS OF BULK AT MOST 1048576: true; the input reads as it did. -/
def valueFindMatchesSpecUptoRow : OpenClaim := { program := "ytolognhjdmkohaa", sum := "c0db59c9d6d2e0d918477517a5fd29ec6f82ae975729f3c96c968721d47c39bf", func := "scriptorium/scriptoriumlaw1.ValueFindMatchesSpec", spec := "valueFindMatchesSpec", inPlace := ["internal/bytealg.IndexByteString", "internal/bytealg.IndexString"], unfollowed := true, recurses := true, named := ["internal/bytealg.MaxLen"], loops := true, apart := false, narrowed := true }
def ValueFindMatchesSpecUptoSaid : Prop := valueFindMatchesSpecUptoRow.holds Try.pinned (OpenSpec.upto valueFindMatchesSpecSpec)

/-- 'scriptoriumlaw1.ValueWalkMatchesSpec', WHERE WHAT IT READS IS OF BULK AT MOST 1048576: true; the input reads as it did. -/
def valueWalkMatchesSpecUptoRow : OpenClaim := { program := "ytolognhjdmkohaa", sum := "c0db59c9d6d2e0d918477517a5fd29ec6f82ae975729f3c96c968721d47c39bf", func := "scriptorium/scriptoriumlaw1.ValueWalkMatchesSpec", spec := "valueWalkMatchesSpec", inPlace := ["internal/bytealg.IndexByteString", "internal/bytealg.IndexString"], unfollowed := true, recurses := true, named := ["internal/bytealg.MaxLen"], loops := true, apart := false, narrowed := true }
def ValueWalkMatchesSpecUptoSaid : Prop := valueWalkMatchesSpecUptoRow.holds Try.pinned (OpenSpec.upto valueWalkMatchesSpecSpec)

/-- 'scriptoriumlaw1.ValueCompareOrders', WHERE WHAT IT READS IS OF BULK AT MOST 1048576: true; the input reads as it did. -/
def valueCompareOrdersUptoRow : OpenClaim := { program := "ytolognhjdmkohaa", sum := "c0db59c9d6d2e0d918477517a5fd29ec6f82ae975729f3c96c968721d47c39bf", func := "scriptorium/scriptoriumlaw1.ValueCompareOrders", spec := "valueCompareOrders", inPlace := ["internal/bytealg.IndexByteString", "internal/bytealg.IndexString", "internal/bytealg.Compare"], unfollowed := true, recurses := true, named := ["internal/bytealg.MaxLen"], loops := true, apart := false, narrowed := true }
def ValueCompareOrdersUptoSaid : Prop := valueCompareOrdersUptoRow.holds Try.pinned (OpenSpec.upto valueCompareOrdersSpec)

/-- 'scriptoriumlaw1.ValueReplaceMatchesSpec', WHERE WHAT IT READS IS OF BULK AT MOST 1048576: true; the input reads as it did. -/
def valueReplaceMatchesSpecUptoRow : OpenClaim := { program := "ytolognhjdmkohaa", sum := "c0db59c9d6d2e0d918477517a5fd29ec6f82ae975729f3c96c968721d47c39bf", func := "scriptorium/scriptoriumlaw1.ValueReplaceMatchesSpec", spec := "valueReplaceMatchesSpec", inPlace := ["internal/bytealg.IndexByteString", "internal/bytealg.IndexString"], unfollowed := true, recurses := true, named := ["internal/bytealg.MaxLen"], loops := true, apart := false, narrowed := true }
def ValueReplaceMatchesSpecUptoSaid : Prop := valueReplaceMatchesSpecUptoRow.holds Try.pinned (OpenSpec.upto valueReplaceMatchesSpecSpec)

end Rows
end Go.Proofs.Ytolognhjdmkohaa
