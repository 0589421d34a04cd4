/-
  No cell of these rows narrows 'for every input' (looked for: loops, veiled, ifaces, maps, wideKeys, modest, calm, conditions, laid).
  DERIVED. THE GIVEN ROWS OF THIS SEAT. 8 by the template 'for every input the law returns true; each argument reads behind the call as it read before'; 0 by the template 'total and deterministic' (their statements: YtmhjcdencfbjpaaTotals.lean).
  GIVEN WITH THE SEED: the statements are not yours to turn. If you find one false, say at which input.
  Laid BY PROGRAM, IN A SANDBOX (cutbox-rows.mjs): the forced cells as the released guide's own fill.sh prints them over the translation 44673ebb3f2bbe6c… (all of the seat's roots in one cut). By AI agents, Wed Nov 11 2026. No macro, syntax, notation, axiom, sorry.
-/
import Derived.Test.YtmhjcdencfbjpaaChecked
import GoSem.Claim
import GoSem.ClaimJoined
import GoSem.ClaimMapViews
import Derived.JoinedTies
import Derived.KernelRfl
namespace Go.Proofs.Ytmhjcdencfbjpaa
/- THE CELL 'sum', in the pinned program and in every row, IS THE sha256 OF THE DUMP (.gsa) THAT YtmhjcdencfbjpaaProg.lean LOADS. Nothing in Lean hashes anything: it is a label: what it is worth is what the hold of that sum in a sandbox is worth. -/
noncomputable def Try.pinned : Pinned := { name := "ytmhjcdencfbjpaa", sum := "44673ebb3f2bbe6c72b2e7ce14de48a3083b4067f13845aee0dcaee1f5897118", checked := Try.checked }
namespace Rows
def none {H : Type} : Left H := { results := [], args := [] }

/-- 'scriptoriumlaw1.CalendarDayMatchesSpec': WHATEVER THE INPUT: true; the input reads as it did. -/
def calendarDayMatchesSpecSpec : ChangeSpec := { name := "calendarDayMatchesSpec", fn := fun _ => fun
  | [d1, d2, d3] => { results := [.lit (.bool true)], args := [d1, d2, d3] }
  | _ => none }
def calendarDayMatchesSpecRow : OpenClaim := { program := "ytmhjcdencfbjpaa", sum := "44673ebb3f2bbe6c72b2e7ce14de48a3083b4067f13845aee0dcaee1f5897118", func := "scriptorium/scriptoriumlaw1.CalendarDayMatchesSpec", spec := "calendarDayMatchesSpec", apart := false }
def CalendarDayMatchesSpecSaid : Prop := calendarDayMatchesSpecRow.holds Try.pinned (OpenSpec.ofChange calendarDayMatchesSpecSpec)

/-- ITS FALSE NEIGHBOUR: 'it returns false'. Refute it at one input. -/
def calendarDayMatchesSpecWrong : ChangeSpec := { name := "calendarDayMatchesSpec", fn := fun _ => fun
  | [d1, d2, d3] => { results := [.lit (.bool false)], args := [d1, d2, d3] }
  | _ => none }
def CalendarDayMatchesSpecWrongFalsely : Prop := calendarDayMatchesSpecRow.holds Try.pinned (OpenSpec.ofChange calendarDayMatchesSpecWrong)

/-- 'scriptoriumlaw1.CalendarDateInverse': WHATEVER THE INPUT: true; the input reads as it did. -/
def calendarDateInverseSpec : ChangeSpec := { name := "calendarDateInverse", fn := fun _ => fun
  | [d] => { results := [.lit (.bool true)], args := [d] }
  | _ => none }
def calendarDateInverseRow : OpenClaim := { program := "ytmhjcdencfbjpaa", sum := "44673ebb3f2bbe6c72b2e7ce14de48a3083b4067f13845aee0dcaee1f5897118", func := "scriptorium/scriptoriumlaw1.CalendarDateInverse", spec := "calendarDateInverse", apart := false }
def CalendarDateInverseSaid : Prop := calendarDateInverseRow.holds Try.pinned (OpenSpec.ofChange calendarDateInverseSpec)

/-- ITS FALSE NEIGHBOUR: 'it returns false'. Refute it at one input. -/
def calendarDateInverseWrong : ChangeSpec := { name := "calendarDateInverse", fn := fun _ => fun
  | [d] => { results := [.lit (.bool false)], args := [d] }
  | _ => none }
def CalendarDateInverseWrongFalsely : Prop := calendarDateInverseRow.holds Try.pinned (OpenSpec.ofChange calendarDateInverseWrong)

/-- 'scriptoriumlaw1.CalendarNextDay': WHATEVER THE INPUT: true; the input reads as it did. -/
def calendarNextDaySpec : ChangeSpec := { name := "calendarNextDay", fn := fun _ => fun
  | [d1, d2, d3] => { results := [.lit (.bool true)], args := [d1, d2, d3] }
  | _ => none }
def calendarNextDayRow : OpenClaim := { program := "ytmhjcdencfbjpaa", sum := "44673ebb3f2bbe6c72b2e7ce14de48a3083b4067f13845aee0dcaee1f5897118", func := "scriptorium/scriptoriumlaw1.CalendarNextDay", spec := "calendarNextDay", apart := false }
def CalendarNextDaySaid : Prop := calendarNextDayRow.holds Try.pinned (OpenSpec.ofChange calendarNextDaySpec)

/-- ITS FALSE NEIGHBOUR: 'it returns false'. Refute it at one input. -/
def calendarNextDayWrong : ChangeSpec := { name := "calendarNextDay", fn := fun _ => fun
  | [d1, d2, d3] => { results := [.lit (.bool false)], args := [d1, d2, d3] }
  | _ => none }
def CalendarNextDayWrongFalsely : Prop := calendarNextDayRow.holds Try.pinned (OpenSpec.ofChange calendarNextDayWrong)

/-- 'scriptoriumlaw1.CalendarTextsOrdered': WHATEVER THE INPUT: true; the input reads as it did. -/
def calendarTextsOrderedSpec : ChangeSpec := { name := "calendarTextsOrdered", fn := fun _ => fun
  | [d1, d2] => { results := [.lit (.bool true)], args := [d1, d2] }
  | _ => none }
def calendarTextsOrderedRow : OpenClaim := { program := "ytmhjcdencfbjpaa", sum := "44673ebb3f2bbe6c72b2e7ce14de48a3083b4067f13845aee0dcaee1f5897118", func := "scriptorium/scriptoriumlaw1.CalendarTextsOrdered", spec := "calendarTextsOrdered", apart := false }
def CalendarTextsOrderedSaid : Prop := calendarTextsOrderedRow.holds Try.pinned (OpenSpec.ofChange calendarTextsOrderedSpec)

/-- ITS FALSE NEIGHBOUR: 'it returns false'. Refute it at one input. -/
def calendarTextsOrderedWrong : ChangeSpec := { name := "calendarTextsOrdered", fn := fun _ => fun
  | [d1, d2] => { results := [.lit (.bool false)], args := [d1, d2] }
  | _ => none }
def CalendarTextsOrderedWrongFalsely : Prop := calendarTextsOrderedRow.holds Try.pinned (OpenSpec.ofChange calendarTextsOrderedWrong)

/-- 'scriptoriumlaw1.CalendarMonthsMatchSpec': WHATEVER THE INPUT: true; the input reads as it did. -/
def calendarMonthsMatchSpecSpec : ChangeSpec := { name := "calendarMonthsMatchSpec", fn := fun _ => fun
  | [d1, d2] => { results := [.lit (.bool true)], args := [d1, d2] }
  | _ => none }
def calendarMonthsMatchSpecRow : OpenClaim := { program := "ytmhjcdencfbjpaa", sum := "44673ebb3f2bbe6c72b2e7ce14de48a3083b4067f13845aee0dcaee1f5897118", func := "scriptorium/scriptoriumlaw1.CalendarMonthsMatchSpec", spec := "calendarMonthsMatchSpec", apart := false }
def CalendarMonthsMatchSpecSaid : Prop := calendarMonthsMatchSpecRow.holds Try.pinned (OpenSpec.ofChange calendarMonthsMatchSpecSpec)

/-- ITS FALSE NEIGHBOUR: 'it returns false'. Refute it at one input. -/
def calendarMonthsMatchSpecWrong : ChangeSpec := { name := "calendarMonthsMatchSpec", fn := fun _ => fun
  | [d1, d2] => { results := [.lit (.bool false)], args := [d1, d2] }
  | _ => none }
def CalendarMonthsMatchSpecWrongFalsely : Prop := calendarMonthsMatchSpecRow.holds Try.pinned (OpenSpec.ofChange calendarMonthsMatchSpecWrong)

/-- 'scriptoriumlaw1.CalendarMonthsCompose': WHATEVER THE INPUT: true; the input reads as it did. -/
def calendarMonthsComposeSpec : ChangeSpec := { name := "calendarMonthsCompose", fn := fun _ => fun
  | [d1, d2, d3] => { results := [.lit (.bool true)], args := [d1, d2, d3] }
  | _ => none }
def calendarMonthsComposeRow : OpenClaim := { program := "ytmhjcdencfbjpaa", sum := "44673ebb3f2bbe6c72b2e7ce14de48a3083b4067f13845aee0dcaee1f5897118", func := "scriptorium/scriptoriumlaw1.CalendarMonthsCompose", spec := "calendarMonthsCompose", apart := false }
def CalendarMonthsComposeSaid : Prop := calendarMonthsComposeRow.holds Try.pinned (OpenSpec.ofChange calendarMonthsComposeSpec)

/-- ITS FALSE NEIGHBOUR: 'it returns false'. Refute it at one input. -/
def calendarMonthsComposeWrong : ChangeSpec := { name := "calendarMonthsCompose", fn := fun _ => fun
  | [d1, d2, d3] => { results := [.lit (.bool false)], args := [d1, d2, d3] }
  | _ => none }
def CalendarMonthsComposeWrongFalsely : Prop := calendarMonthsComposeRow.holds Try.pinned (OpenSpec.ofChange calendarMonthsComposeWrong)

/-- 'scriptoriumlaw1.CalendarWeekdays': WHATEVER THE INPUT: true; the input reads as it did. -/
def calendarWeekdaysSpec : ChangeSpec := { name := "calendarWeekdays", fn := fun _ => fun
  | [d] => { results := [.lit (.bool true)], args := [d] }
  | _ => none }
def calendarWeekdaysRow : OpenClaim := { program := "ytmhjcdencfbjpaa", sum := "44673ebb3f2bbe6c72b2e7ce14de48a3083b4067f13845aee0dcaee1f5897118", func := "scriptorium/scriptoriumlaw1.CalendarWeekdays", spec := "calendarWeekdays", apart := false }
def CalendarWeekdaysSaid : Prop := calendarWeekdaysRow.holds Try.pinned (OpenSpec.ofChange calendarWeekdaysSpec)

/-- ITS FALSE NEIGHBOUR: 'it returns false'. Refute it at one input. -/
def calendarWeekdaysWrong : ChangeSpec := { name := "calendarWeekdays", fn := fun _ => fun
  | [d] => { results := [.lit (.bool false)], args := [d] }
  | _ => none }
def CalendarWeekdaysWrongFalsely : Prop := calendarWeekdaysRow.holds Try.pinned (OpenSpec.ofChange calendarWeekdaysWrong)

/-- 'scriptoriumlaw1.CalendarTextMatchesSpec': WHATEVER THE INPUT: true; the input reads as it did. -/
def calendarTextMatchesSpecSpec : ChangeSpec := { name := "calendarTextMatchesSpec", fn := fun _ => fun
  | [d] => { results := [.lit (.bool true)], args := [d] }
  | _ => none }
def calendarTextMatchesSpecRow : OpenClaim := { program := "ytmhjcdencfbjpaa", sum := "44673ebb3f2bbe6c72b2e7ce14de48a3083b4067f13845aee0dcaee1f5897118", func := "scriptorium/scriptoriumlaw1.CalendarTextMatchesSpec", spec := "calendarTextMatchesSpec", apart := false }
def CalendarTextMatchesSpecSaid : Prop := calendarTextMatchesSpecRow.holds Try.pinned (OpenSpec.ofChange calendarTextMatchesSpecSpec)

/-- ITS FALSE NEIGHBOUR: 'it returns false'. Refute it at one input. -/
def calendarTextMatchesSpecWrong : ChangeSpec := { name := "calendarTextMatchesSpec", fn := fun _ => fun
  | [d] => { results := [.lit (.bool false)], args := [d] }
  | _ => none }
def CalendarTextMatchesSpecWrongFalsely : Prop := calendarTextMatchesSpecRow.holds Try.pinned (OpenSpec.ofChange calendarTextMatchesSpecWrong)

/- THE SECOND FORM. 'bulk': how many values and letters a reading holds, each counted each time it is reached (what is shared counts as often as it is met; a slice's spare places count too). A statement '..UptoSaid' is the law's where the arguments, and the package variables that the reading takes, are together of bulk at most 1048576: NARROWER than '..Said'. Prove '..Said' where nothing that the law and all that it calls make is longer than what came in: it says more and counts as full. Else prove '..UptoSaid'. A law counts once. -/
mutual
def uptoBulk {H : Type} : DataW H → Nat
  | .lit (.string bytes) => bytes.length + 1
  | .lit _ => 1
  | .nil => 1
  | .ptr d => uptoBulk d + 1
  | .slice elems spare => uptoBulkAll elems + uptoBulkAll spare + 1
  | .agg parts => uptoBulkAll parts + 1
  | .iface _ d => uptoBulk d + 1
  | .map entries => uptoBulkEntries entries + 1
  | .held _ => 1
def uptoBulkAll {H : Type} : List (DataW H) → Nat
  | [] => 0
  | d :: r => uptoBulk d + uptoBulkAll r
def uptoBulkEntries {H : Type} : List (Lit × DataW H) → Nat
  | [] => 0
  | x :: r => uptoBulkEntry x + uptoBulkEntries r
def uptoBulkEntry {H : Type} : Lit × DataW H → Nat
  | (.string bytes, d) => bytes.length + uptoBulk d + 1
  | (_, d) => uptoBulk d + 1
 end
def uptoSmall : (H : Type) → List (DataW H) → Bool := fun _ ds => decide (uptoBulkAll ds ≤ 1048576)
def OpenSpec.upto (s : _root_.Go.ChangeSpec) : _root_.Go.OpenSpec := { _root_.Go.OpenSpec.ofChange s with cond := some uptoSmall }

/-- 'scriptoriumlaw1.CalendarDayMatchesSpec', WHERE WHAT IT READS IS OF BULK AT MOST 1048576: true; the input reads as it did. -/
def calendarDayMatchesSpecUptoRow : OpenClaim := { program := "ytmhjcdencfbjpaa", sum := "44673ebb3f2bbe6c72b2e7ce14de48a3083b4067f13845aee0dcaee1f5897118", func := "scriptorium/scriptoriumlaw1.CalendarDayMatchesSpec", spec := "calendarDayMatchesSpec", apart := false, narrowed := true }
def CalendarDayMatchesSpecUptoSaid : Prop := calendarDayMatchesSpecUptoRow.holds Try.pinned (OpenSpec.upto calendarDayMatchesSpecSpec)

/-- 'scriptoriumlaw1.CalendarDateInverse', WHERE WHAT IT READS IS OF BULK AT MOST 1048576: true; the input reads as it did. -/
def calendarDateInverseUptoRow : OpenClaim := { program := "ytmhjcdencfbjpaa", sum := "44673ebb3f2bbe6c72b2e7ce14de48a3083b4067f13845aee0dcaee1f5897118", func := "scriptorium/scriptoriumlaw1.CalendarDateInverse", spec := "calendarDateInverse", apart := false, narrowed := true }
def CalendarDateInverseUptoSaid : Prop := calendarDateInverseUptoRow.holds Try.pinned (OpenSpec.upto calendarDateInverseSpec)

/-- 'scriptoriumlaw1.CalendarNextDay', WHERE WHAT IT READS IS OF BULK AT MOST 1048576: true; the input reads as it did. -/
def calendarNextDayUptoRow : OpenClaim := { program := "ytmhjcdencfbjpaa", sum := "44673ebb3f2bbe6c72b2e7ce14de48a3083b4067f13845aee0dcaee1f5897118", func := "scriptorium/scriptoriumlaw1.CalendarNextDay", spec := "calendarNextDay", apart := false, narrowed := true }
def CalendarNextDayUptoSaid : Prop := calendarNextDayUptoRow.holds Try.pinned (OpenSpec.upto calendarNextDaySpec)

/-- 'scriptoriumlaw1.CalendarTextsOrdered', WHERE WHAT IT READS IS OF BULK AT MOST 1048576: true; the input reads as it did. -/
def calendarTextsOrderedUptoRow : OpenClaim := { program := "ytmhjcdencfbjpaa", sum := "44673ebb3f2bbe6c72b2e7ce14de48a3083b4067f13845aee0dcaee1f5897118", func := "scriptorium/scriptoriumlaw1.CalendarTextsOrdered", spec := "calendarTextsOrdered", apart := false, narrowed := true }
def CalendarTextsOrderedUptoSaid : Prop := calendarTextsOrderedUptoRow.holds Try.pinned (OpenSpec.upto calendarTextsOrderedSpec)

/-- 'scriptoriumlaw1.CalendarMonthsMatchSpec', WHERE WHAT IT READS IS OF BULK AT MOST 1048576: true; the input reads as it did. -/
def calendarMonthsMatchSpecUptoRow : OpenClaim := { program := "ytmhjcdencfbjpaa", sum := "44673ebb3f2bbe6c72b2e7ce14de48a3083b4067f13845aee0dcaee1f5897118", func := "scriptorium/scriptoriumlaw1.CalendarMonthsMatchSpec", spec := "calendarMonthsMatchSpec", apart := false, narrowed := true }
def CalendarMonthsMatchSpecUptoSaid : Prop := calendarMonthsMatchSpecUptoRow.holds Try.pinned (OpenSpec.upto calendarMonthsMatchSpecSpec)

/-- 'scriptoriumlaw1.CalendarMonthsCompose', WHERE WHAT IT READS IS OF BULK AT MOST 1048576: true; the input reads as it did. -/
def calendarMonthsComposeUptoRow : OpenClaim := { program := "ytmhjcdencfbjpaa", sum := "44673ebb3f2bbe6c72b2e7ce14de48a3083b4067f13845aee0dcaee1f5897118", func := "scriptorium/scriptoriumlaw1.CalendarMonthsCompose", spec := "calendarMonthsCompose", apart := false, narrowed := true }
def CalendarMonthsComposeUptoSaid : Prop := calendarMonthsComposeUptoRow.holds Try.pinned (OpenSpec.upto calendarMonthsComposeSpec)

/-- 'scriptoriumlaw1.CalendarWeekdays', WHERE WHAT IT READS IS OF BULK AT MOST 1048576: true; the input reads as it did. -/
def calendarWeekdaysUptoRow : OpenClaim := { program := "ytmhjcdencfbjpaa", sum := "44673ebb3f2bbe6c72b2e7ce14de48a3083b4067f13845aee0dcaee1f5897118", func := "scriptorium/scriptoriumlaw1.CalendarWeekdays", spec := "calendarWeekdays", apart := false, narrowed := true }
def CalendarWeekdaysUptoSaid : Prop := calendarWeekdaysUptoRow.holds Try.pinned (OpenSpec.upto calendarWeekdaysSpec)

/-- 'scriptoriumlaw1.CalendarTextMatchesSpec', WHERE WHAT IT READS IS OF BULK AT MOST 1048576: true; the input reads as it did. -/
def calendarTextMatchesSpecUptoRow : OpenClaim := { program := "ytmhjcdencfbjpaa", sum := "44673ebb3f2bbe6c72b2e7ce14de48a3083b4067f13845aee0dcaee1f5897118", func := "scriptorium/scriptoriumlaw1.CalendarTextMatchesSpec", spec := "calendarTextMatchesSpec", apart := false, narrowed := true }
def CalendarTextMatchesSpecUptoSaid : Prop := calendarTextMatchesSpecUptoRow.holds Try.pinned (OpenSpec.upto calendarTextMatchesSpecSpec)

end Rows
end Go.Proofs.Ytmhjcdencfbjpaa
