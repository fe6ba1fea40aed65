/-
  NARROWER THAN 'FOR EVERY INPUT', by the rows' own cells (each row's printed sentence says how): HeapReadsBack: loops · HeapBound: loops.
  DERIVED. THE GIVEN ROWS OF THIS SEAT. 6 by the template 'for every input the law returns true; each argument reads behind the call as it read before'; 0 by the template 'total and deterministic' (their statements: YthblpljakpecdaaTotals.lean).
  GIVEN WITH THE SEED: the statements are not yours to turn. If you find one false, say at which input.
  Laid BY PROGRAM, IN A SANDBOX (cutbox-rows.mjs): the forced cells as the released guide's own fill.sh prints them over the translation 6a83cf966892d8b6… (all of the seat's roots in one cut). By AI agents, Wed Nov 11 2026. No macro, syntax, notation, axiom, sorry.
-/
import Derived.Test.YthblpljakpecdaaChecked
import GoSem.Claim
import GoSem.ClaimJoined
import GoSem.ClaimMapViews
import Derived.JoinedTies
import Derived.KernelRfl
namespace Go.Proofs.Ythblpljakpecdaa
/- THE CELL 'sum', in the pinned program and in every row, IS THE sha256 OF THE DUMP (.gsa) THAT YthblpljakpecdaaProg.lean LOADS. Nothing in Lean hashes anything: it is a label: what it is worth is what the hold of that sum in a sandbox is worth. -/
noncomputable def Try.pinned : Pinned := { name := "ythblpljakpecdaa", sum := "6a83cf966892d8b6564387e3002a496d0ef4a650e3bc79cf4ad140d36c3402d0", checked := Try.checked }
namespace Rows
def none {H : Type} : Left H := { results := [], args := [] }

/-- 'riparianlaw21.HeapSpaces': WHATEVER THE INPUT: true; the input reads as it did. -/
def heapSpacesSpec : ChangeSpec := { name := "heapSpaces", fn := fun _ => fun
  | [d1, d2] => { results := [.lit (.bool true)], args := [d1, d2] }
  | _ => none }
def heapSpacesRow : OpenClaim := { program := "ythblpljakpecdaa", sum := "6a83cf966892d8b6564387e3002a496d0ef4a650e3bc79cf4ad140d36c3402d0", func := "riparian/riparianlaw21.HeapSpaces", spec := "heapSpaces", unfollowed := true, recurses := true, apart := false }
def HeapSpacesSaid : Prop := heapSpacesRow.holds Try.pinned (OpenSpec.ofChange heapSpacesSpec)

/-- ITS FALSE NEIGHBOUR: 'it returns false'. Refute it at one input. -/
def heapSpacesWrong : ChangeSpec := { name := "heapSpaces", fn := fun _ => fun
  | [d1, d2] => { results := [.lit (.bool false)], args := [d1, d2] }
  | _ => none }
def HeapSpacesWrongFalsely : Prop := heapSpacesRow.holds Try.pinned (OpenSpec.ofChange heapSpacesWrong)

/-- 'riparianlaw21.HeapUpdates': WHATEVER THE INPUT: true; the input reads as it did. -/
def heapUpdatesSpec : ChangeSpec := { name := "heapUpdates", fn := fun _ => fun
  | [d1, d2, d3] => { results := [.lit (.bool true)], args := [d1, d2, d3] }
  | _ => none }
def heapUpdatesRow : OpenClaim := { program := "ythblpljakpecdaa", sum := "6a83cf966892d8b6564387e3002a496d0ef4a650e3bc79cf4ad140d36c3402d0", func := "riparian/riparianlaw21.HeapUpdates", spec := "heapUpdates", unfollowed := true, recurses := true, apart := false }
def HeapUpdatesSaid : Prop := heapUpdatesRow.holds Try.pinned (OpenSpec.ofChange heapUpdatesSpec)

/-- ITS FALSE NEIGHBOUR: 'it returns false'. Refute it at one input. -/
def heapUpdatesWrong : ChangeSpec := { name := "heapUpdates", fn := fun _ => fun
  | [d1, d2, d3] => { results := [.lit (.bool false)], args := [d1, d2, d3] }
  | _ => none }
def HeapUpdatesWrongFalsely : Prop := heapUpdatesRow.holds Try.pinned (OpenSpec.ofChange heapUpdatesWrong)

/-- 'riparianlaw21.HeapReadsBack': WHATEVER THE INPUT: true; the input reads as it did. -/
def heapReadsBackSpec : ChangeSpec := { name := "heapReadsBack", fn := fun _ => fun
  | [d1, d2] => { results := [.lit (.bool true)], args := [d1, d2] }
  | _ => none }
def heapReadsBackRow : OpenClaim := { program := "ythblpljakpecdaa", sum := "6a83cf966892d8b6564387e3002a496d0ef4a650e3bc79cf4ad140d36c3402d0", func := "riparian/riparianlaw21.HeapReadsBack", spec := "heapReadsBack", unfollowed := true, recurses := true, loops := true, apart := false }
def HeapReadsBackSaid : Prop := heapReadsBackRow.holds Try.pinned (OpenSpec.ofChange heapReadsBackSpec)

/-- ITS FALSE NEIGHBOUR: 'it returns false'. Refute it at one input. -/
def heapReadsBackWrong : ChangeSpec := { name := "heapReadsBack", fn := fun _ => fun
  | [d1, d2] => { results := [.lit (.bool false)], args := [d1, d2] }
  | _ => none }
def HeapReadsBackWrongFalsely : Prop := heapReadsBackRow.holds Try.pinned (OpenSpec.ofChange heapReadsBackWrong)

/-- 'riparianlaw21.HeapTrue': WHATEVER THE INPUT: true; the input reads as it did. -/
def heapTrueSpec : ChangeSpec := { name := "heapTrue", fn := fun _ => fun
  | [d1, d2] => { results := [.lit (.bool true)], args := [d1, d2] }
  | _ => none }
def heapTrueRow : OpenClaim := { program := "ythblpljakpecdaa", sum := "6a83cf966892d8b6564387e3002a496d0ef4a650e3bc79cf4ad140d36c3402d0", func := "riparian/riparianlaw21.HeapTrue", spec := "heapTrue", unfollowed := true, recurses := true, apart := false }
def HeapTrueSaid : Prop := heapTrueRow.holds Try.pinned (OpenSpec.ofChange heapTrueSpec)

/-- ITS FALSE NEIGHBOUR: 'it returns false'. Refute it at one input. -/
def heapTrueWrong : ChangeSpec := { name := "heapTrue", fn := fun _ => fun
  | [d1, d2] => { results := [.lit (.bool false)], args := [d1, d2] }
  | _ => none }
def HeapTrueWrongFalsely : Prop := heapTrueRow.holds Try.pinned (OpenSpec.ofChange heapTrueWrong)

/-- 'riparianlaw21.HeapInPlace': WHATEVER THE INPUT: true; the input reads as it did. -/
def heapInPlaceSpec : ChangeSpec := { name := "heapInPlace", fn := fun _ => fun
  | [d1, d2] => { results := [.lit (.bool true)], args := [d1, d2] }
  | _ => none }
def heapInPlaceRow : OpenClaim := { program := "ythblpljakpecdaa", sum := "6a83cf966892d8b6564387e3002a496d0ef4a650e3bc79cf4ad140d36c3402d0", func := "riparian/riparianlaw21.HeapInPlace", spec := "heapInPlace", unfollowed := true, recurses := true, apart := false }
def HeapInPlaceSaid : Prop := heapInPlaceRow.holds Try.pinned (OpenSpec.ofChange heapInPlaceSpec)

/-- ITS FALSE NEIGHBOUR: 'it returns false'. Refute it at one input. -/
def heapInPlaceWrong : ChangeSpec := { name := "heapInPlace", fn := fun _ => fun
  | [d1, d2] => { results := [.lit (.bool false)], args := [d1, d2] }
  | _ => none }
def HeapInPlaceWrongFalsely : Prop := heapInPlaceRow.holds Try.pinned (OpenSpec.ofChange heapInPlaceWrong)

/-- 'riparianlaw21.HeapBound': WHATEVER THE INPUT: true; the input reads as it did. -/
def heapBoundSpec : ChangeSpec := { name := "heapBound", fn := fun _ => fun
  | [d1, d2, d3, d4] => { results := [.lit (.bool true)], args := [d1, d2, d3, d4] }
  | _ => none }
def heapBoundRow : OpenClaim := { program := "ythblpljakpecdaa", sum := "6a83cf966892d8b6564387e3002a496d0ef4a650e3bc79cf4ad140d36c3402d0", func := "riparian/riparianlaw21.HeapBound", spec := "heapBound", unfollowed := true, recurses := true, loops := true, apart := false }
def HeapBoundSaid : Prop := heapBoundRow.holds Try.pinned (OpenSpec.ofChange heapBoundSpec)

/-- ITS FALSE NEIGHBOUR: 'it returns false'. Refute it at one input. -/
def heapBoundWrong : ChangeSpec := { name := "heapBound", fn := fun _ => fun
  | [d1, d2, d3, d4] => { results := [.lit (.bool false)], args := [d1, d2, d3, d4] }
  | _ => none }
def HeapBoundWrongFalsely : Prop := heapBoundRow.holds Try.pinned (OpenSpec.ofChange heapBoundWrong)

/- THE SECOND FORM. 'bulk': how many values and letters a reading holds, each counted each time it is reached (what is shared counts as often as it is met; a slice's spare places count too). A statement '..UptoSaid' is the law's where the arguments, and the package variables that the reading takes, are together of bulk at most 1048576: NARROWER than '..Said'. Prove '..Said' where nothing that the law and all that it calls make is longer than what came in: it says more and counts as full. Else prove '..UptoSaid'. A law counts once. -/
mutual
def uptoBulk {H : Type} : DataW H → Nat
  | .lit (.string bytes) => bytes.length + 1
  | .lit _ => 1
  | .nil => 1
  | .ptr d => uptoBulk d + 1
  | .slice elems spare => uptoBulkAll elems + uptoBulkAll spare + 1
  | .agg parts => uptoBulkAll parts + 1
  | .iface _ d => uptoBulk d + 1
  | .map entries => uptoBulkEntries entries + 1
  | .held _ => 1
def uptoBulkAll {H : Type} : List (DataW H) → Nat
  | [] => 0
  | d :: r => uptoBulk d + uptoBulkAll r
def uptoBulkEntries {H : Type} : List (Lit × DataW H) → Nat
  | [] => 0
  | x :: r => uptoBulkEntry x + uptoBulkEntries r
def uptoBulkEntry {H : Type} : Lit × DataW H → Nat
  | (.string bytes, d) => bytes.length + uptoBulk d + 1
  | (_, d) => uptoBulk d + 1
 end
def uptoSmall : (H : Type) → List (DataW H) → Bool := fun _ ds => decide (uptoBulkAll ds ≤ 1048576)
def OpenSpec.upto (s : _root_.Go.ChangeSpec) : _root_.Go.OpenSpec := { _root_.Go.OpenSpec.ofChange s with cond := some uptoSmall }

/-- 'riparianlaw21.HeapSpaces', WHERE WHAT IT READS IS OF BULK AT MOST 1048576: true; the input reads as it did. -/
def heapSpacesUptoRow : OpenClaim := { program := "ythblpljakpecdaa", sum := "6a83cf966892d8b6564387e3002a496d0ef4a650e3bc79cf4ad140d36c3402d0", func := "riparian/riparianlaw21.HeapSpaces", spec := "heapSpaces", unfollowed := true, recurses := true, apart := false, narrowed := true }
def HeapSpacesUptoSaid : Prop := heapSpacesUptoRow.holds Try.pinned (OpenSpec.upto heapSpacesSpec)

/-- 'riparianlaw21.HeapUpdates', WHERE WHAT IT READS IS OF BULK AT MOST 1048576: true; the input reads as it did. -/
def heapUpdatesUptoRow : OpenClaim := { program := "ythblpljakpecdaa", sum := "6a83cf966892d8b6564387e3002a496d0ef4a650e3bc79cf4ad140d36c3402d0", func := "riparian/riparianlaw21.HeapUpdates", spec := "heapUpdates", unfollowed := true, recurses := true, apart := false, narrowed := true }
def HeapUpdatesUptoSaid : Prop := heapUpdatesUptoRow.holds Try.pinned (OpenSpec.upto heapUpdatesSpec)

/-- 'riparianlaw21.HeapReadsBack', WHERE WHAT IT READS IS OF BULK AT MOST 1048576: true; the input reads as it did. -/
def heapReadsBackUptoRow : OpenClaim := { program := "ythblpljakpecdaa", sum := "6a83cf966892d8b6564387e3002a496d0ef4a650e3bc79cf4ad140d36c3402d0", func := "riparian/riparianlaw21.HeapReadsBack", spec := "heapReadsBack", unfollowed := true, recurses := true, loops := true, apart := false, narrowed := true }
def HeapReadsBackUptoSaid : Prop := heapReadsBackUptoRow.holds Try.pinned (OpenSpec.upto heapReadsBackSpec)

/-- 'riparianlaw21.HeapTrue', WHERE WHAT IT READS IS OF BULK AT MOST 1048576: true; the input reads as it did. -/
def heapTrueUptoRow : OpenClaim := { program := "ythblpljakpecdaa", sum := "6a83cf966892d8b6564387e3002a496d0ef4a650e3bc79cf4ad140d36c3402d0", func := "riparian/riparianlaw21.HeapTrue", spec := "heapTrue", unfollowed := true, recurses := true, apart := false, narrowed := true }
def HeapTrueUptoSaid : Prop := heapTrueUptoRow.holds Try.pinned (OpenSpec.upto heapTrueSpec)

/-- 'riparianlaw21.HeapInPlace', WHERE WHAT IT READS IS OF BULK AT MOST 1048576: true; the input reads as it did. -/
def heapInPlaceUptoRow : OpenClaim := { program := "ythblpljakpecdaa", sum := "6a83cf966892d8b6564387e3002a496d0ef4a650e3bc79cf4ad140d36c3402d0", func := "riparian/riparianlaw21.HeapInPlace", spec := "heapInPlace", unfollowed := true, recurses := true, apart := false, narrowed := true }
def HeapInPlaceUptoSaid : Prop := heapInPlaceUptoRow.holds Try.pinned (OpenSpec.upto heapInPlaceSpec)

/-- 'riparianlaw21.HeapBound', WHERE WHAT IT READS IS OF BULK AT MOST 1048576: true; the input reads as it did. -/
def heapBoundUptoRow : OpenClaim := { program := "ythblpljakpecdaa", sum := "6a83cf966892d8b6564387e3002a496d0ef4a650e3bc79cf4ad140d36c3402d0", func := "riparian/riparianlaw21.HeapBound", spec := "heapBound", unfollowed := true, recurses := true, loops := true, apart := false, narrowed := true }
def HeapBoundUptoSaid : Prop := heapBoundUptoRow.holds Try.pinned (OpenSpec.upto heapBoundSpec)

end Rows
end Go.Proofs.Ythblpljakpecdaa
