/-
  NARROWER THAN 'FOR EVERY INPUT', by the rows' own cells (each row's printed sentence says how): HeapCollects: loops · HeapAllocates: loops · HeapFollows: loops · HeapBuilds: loops · HeapChanges: loops.
  DERIVED. THE GIVEN ROWS OF THIS SEAT. 6 by the template 'for every input the law returns true; each argument reads behind the call as it read before'; 0 by the template 'total and deterministic' (their statements: YthblpljakpecdaaGreatTotals.lean).
  GIVEN WITH THE SEED: the statements are not yours to turn. If you find one false, say at which input.
  Laid BY PROGRAM, IN A SANDBOX (cutbox-rows.mjs): the forced cells as the released guide's own fill.sh prints them over the translation 193a4fef1e4da500… (all of the seat's roots in one cut). By AI agents, Wed Nov 11 2026. No macro, syntax, notation, axiom, sorry.
-/
import Derived.Test.YthblpljakpecdaaGreatChecked
import GoSem.Claim
import GoSem.ClaimJoined
import GoSem.ClaimMapViews
import Derived.JoinedTies
import Derived.KernelRfl
namespace Go.Proofs.YthblpljakpecdaaGreat
/- THE CELL 'sum', in the pinned program and in every row, IS THE sha256 OF THE DUMP (.gsa) THAT YthblpljakpecdaaGreatProg.lean LOADS. Nothing in Lean hashes anything: it is a label: what it is worth is what the hold of that sum in a sandbox is worth. -/
noncomputable def Tryz.pinned : Pinned := { name := "ythblpljakpecdaagreat", sum := "193a4fef1e4da500efd7eb4e12a2b20051ffe6c8731ed921780f6aa1c6cd7b91", checked := Tryz.checked }
namespace Rows
def none {H : Type} : Left H := { results := [], args := [] }

/-- 'riparianlaw21.HeapCollects': WHATEVER THE INPUT: true; the input reads as it did. -/
def heapCollectsSpec : ChangeSpec := { name := "heapCollects", fn := fun _ => fun
  | [d1, d2] => { results := [.lit (.bool true)], args := [d1, d2] }
  | _ => none }
def heapCollectsRow : OpenClaim := { program := "ythblpljakpecdaagreat", sum := "193a4fef1e4da500efd7eb4e12a2b20051ffe6c8731ed921780f6aa1c6cd7b91", func := "riparian/riparianlaw21.HeapCollects", spec := "heapCollects", unfollowed := true, recurses := true, loops := true, apart := false }
def HeapCollectsSaid : Prop := heapCollectsRow.holds Tryz.pinned (OpenSpec.ofChange heapCollectsSpec)

/-- ITS FALSE NEIGHBOUR: 'it returns false'. Refute it at one input. -/
def heapCollectsWrong : ChangeSpec := { name := "heapCollects", fn := fun _ => fun
  | [d1, d2] => { results := [.lit (.bool false)], args := [d1, d2] }
  | _ => none }
def HeapCollectsWrongFalsely : Prop := heapCollectsRow.holds Tryz.pinned (OpenSpec.ofChange heapCollectsWrong)

/-- 'riparianlaw21.HeapSwept': WHATEVER THE INPUT: true; the input reads as it did. -/
def heapSweptSpec : ChangeSpec := { name := "heapSwept", fn := fun _ => fun
  | [d1, d2, d3] => { results := [.lit (.bool true)], args := [d1, d2, d3] }
  | _ => none }
def heapSweptRow : OpenClaim := { program := "ythblpljakpecdaagreat", sum := "193a4fef1e4da500efd7eb4e12a2b20051ffe6c8731ed921780f6aa1c6cd7b91", func := "riparian/riparianlaw21.HeapSwept", spec := "heapSwept", unfollowed := true, recurses := true, apart := false }
def HeapSweptSaid : Prop := heapSweptRow.holds Tryz.pinned (OpenSpec.ofChange heapSweptSpec)

/-- ITS FALSE NEIGHBOUR: 'it returns false'. Refute it at one input. -/
def heapSweptWrong : ChangeSpec := { name := "heapSwept", fn := fun _ => fun
  | [d1, d2, d3] => { results := [.lit (.bool false)], args := [d1, d2, d3] }
  | _ => none }
def HeapSweptWrongFalsely : Prop := heapSweptRow.holds Tryz.pinned (OpenSpec.ofChange heapSweptWrong)

/-- 'riparianlaw21.HeapAllocates': WHATEVER THE INPUT: true; the input reads as it did. -/
def heapAllocatesSpec : ChangeSpec := { name := "heapAllocates", fn := fun _ => fun
  | [d1, d2] => { results := [.lit (.bool true)], args := [d1, d2] }
  | _ => none }
def heapAllocatesRow : OpenClaim := { program := "ythblpljakpecdaagreat", sum := "193a4fef1e4da500efd7eb4e12a2b20051ffe6c8731ed921780f6aa1c6cd7b91", func := "riparian/riparianlaw21.HeapAllocates", spec := "heapAllocates", unfollowed := true, recurses := true, loops := true, apart := false }
def HeapAllocatesSaid : Prop := heapAllocatesRow.holds Tryz.pinned (OpenSpec.ofChange heapAllocatesSpec)

/-- ITS FALSE NEIGHBOUR: 'it returns false'. Refute it at one input. -/
def heapAllocatesWrong : ChangeSpec := { name := "heapAllocates", fn := fun _ => fun
  | [d1, d2] => { results := [.lit (.bool false)], args := [d1, d2] }
  | _ => none }
def HeapAllocatesWrongFalsely : Prop := heapAllocatesRow.holds Tryz.pinned (OpenSpec.ofChange heapAllocatesWrong)

/-- 'riparianlaw21.HeapFollows': WHATEVER THE INPUT: true; the input reads as it did. -/
def heapFollowsSpec : ChangeSpec := { name := "heapFollows", fn := fun _ => fun
  | [d1, d2] => { results := [.lit (.bool true)], args := [d1, d2] }
  | _ => none }
def heapFollowsRow : OpenClaim := { program := "ythblpljakpecdaagreat", sum := "193a4fef1e4da500efd7eb4e12a2b20051ffe6c8731ed921780f6aa1c6cd7b91", func := "riparian/riparianlaw21.HeapFollows", spec := "heapFollows", unfollowed := true, recurses := true, loops := true, apart := false }
def HeapFollowsSaid : Prop := heapFollowsRow.holds Tryz.pinned (OpenSpec.ofChange heapFollowsSpec)

/-- ITS FALSE NEIGHBOUR: 'it returns false'. Refute it at one input. -/
def heapFollowsWrong : ChangeSpec := { name := "heapFollows", fn := fun _ => fun
  | [d1, d2] => { results := [.lit (.bool false)], args := [d1, d2] }
  | _ => none }
def HeapFollowsWrongFalsely : Prop := heapFollowsRow.holds Tryz.pinned (OpenSpec.ofChange heapFollowsWrong)

/-- 'riparianlaw21.HeapBuilds': WHATEVER THE INPUT: true; the input reads as it did. -/
def heapBuildsSpec : ChangeSpec := { name := "heapBuilds", fn := fun _ => fun
  | [d1, d2] => { results := [.lit (.bool true)], args := [d1, d2] }
  | _ => none }
def heapBuildsRow : OpenClaim := { program := "ythblpljakpecdaagreat", sum := "193a4fef1e4da500efd7eb4e12a2b20051ffe6c8731ed921780f6aa1c6cd7b91", func := "riparian/riparianlaw21.HeapBuilds", spec := "heapBuilds", unfollowed := true, recurses := true, loops := true, apart := false }
def HeapBuildsSaid : Prop := heapBuildsRow.holds Tryz.pinned (OpenSpec.ofChange heapBuildsSpec)

/-- ITS FALSE NEIGHBOUR: 'it returns false'. Refute it at one input. -/
def heapBuildsWrong : ChangeSpec := { name := "heapBuilds", fn := fun _ => fun
  | [d1, d2] => { results := [.lit (.bool false)], args := [d1, d2] }
  | _ => none }
def HeapBuildsWrongFalsely : Prop := heapBuildsRow.holds Tryz.pinned (OpenSpec.ofChange heapBuildsWrong)

/-- 'riparianlaw21.HeapChanges': WHATEVER THE INPUT: true; the input reads as it did. -/
def heapChangesSpec : ChangeSpec := { name := "heapChanges", fn := fun _ => fun
  | [d1, d2] => { results := [.lit (.bool true)], args := [d1, d2] }
  | _ => none }
def heapChangesRow : OpenClaim := { program := "ythblpljakpecdaagreat", sum := "193a4fef1e4da500efd7eb4e12a2b20051ffe6c8731ed921780f6aa1c6cd7b91", func := "riparian/riparianlaw21.HeapChanges", spec := "heapChanges", unfollowed := true, recurses := true, loops := true, apart := false }
def HeapChangesSaid : Prop := heapChangesRow.holds Tryz.pinned (OpenSpec.ofChange heapChangesSpec)

/-- ITS FALSE NEIGHBOUR: 'it returns false'. Refute it at one input. -/
def heapChangesWrong : ChangeSpec := { name := "heapChanges", fn := fun _ => fun
  | [d1, d2] => { results := [.lit (.bool false)], args := [d1, d2] }
  | _ => none }
def HeapChangesWrongFalsely : Prop := heapChangesRow.holds Tryz.pinned (OpenSpec.ofChange heapChangesWrong)

/- THE SECOND FORM. 'bulk': how many values and letters a reading holds, each counted each time it is reached (what is shared counts as often as it is met; a slice's spare places count too). A statement '..UptoSaid' is the law's where the arguments, and the package variables that the reading takes, are together of bulk at most 1048576: NARROWER than '..Said'. Prove '..Said' where nothing that the law and all that it calls make is longer than what came in: it says more and counts as full. Else prove '..UptoSaid'. A law counts once. -/
mutual
def uptoBulk {H : Type} : DataW H → Nat
  | .lit (.string bytes) => bytes.length + 1
  | .lit _ => 1
  | .nil => 1
  | .ptr d => uptoBulk d + 1
  | .slice elems spare => uptoBulkAll elems + uptoBulkAll spare + 1
  | .agg parts => uptoBulkAll parts + 1
  | .iface _ d => uptoBulk d + 1
  | .map entries => uptoBulkEntries entries + 1
  | .held _ => 1
def uptoBulkAll {H : Type} : List (DataW H) → Nat
  | [] => 0
  | d :: r => uptoBulk d + uptoBulkAll r
def uptoBulkEntries {H : Type} : List (Lit × DataW H) → Nat
  | [] => 0
  | x :: r => uptoBulkEntry x + uptoBulkEntries r
def uptoBulkEntry {H : Type} : Lit × DataW H → Nat
  | (.string bytes, d) => bytes.length + uptoBulk d + 1
  | (_, d) => uptoBulk d + 1
 end
def uptoSmall : (H : Type) → List (DataW H) → Bool := fun _ ds => decide (uptoBulkAll ds ≤ 1048576)
def OpenSpec.upto (s : _root_.Go.ChangeSpec) : _root_.Go.OpenSpec := { _root_.Go.OpenSpec.ofChange s with cond := some uptoSmall }

/-- 'riparianlaw21.HeapCollects', WHERE WHAT IT READS IS OF BULK AT MOST 1048576: true; the input reads as it did. -/
def heapCollectsUptoRow : OpenClaim := { program := "ythblpljakpecdaagreat", sum := "193a4fef1e4da500efd7eb4e12a2b20051ffe6c8731ed921780f6aa1c6cd7b91", func := "riparian/riparianlaw21.HeapCollects", spec := "heapCollects", unfollowed := true, recurses := true, loops := true, apart := false, narrowed := true }
def HeapCollectsUptoSaid : Prop := heapCollectsUptoRow.holds Tryz.pinned (OpenSpec.upto heapCollectsSpec)

/-- 'riparianlaw21.HeapSwept', WHERE WHAT IT READS IS OF BULK AT MOST 1048576: true; the input reads as it did. -/
def heapSweptUptoRow : OpenClaim := { program := "ythblpljakpecdaagreat", sum := "193a4fef1e4da500efd7eb4e12a2b20051ffe6c8731ed921780f6aa1c6cd7b91", func := "riparian/riparianlaw21.HeapSwept", spec := "heapSwept", unfollowed := true, recurses := true, apart := false, narrowed := true }
def HeapSweptUptoSaid : Prop := heapSweptUptoRow.holds Tryz.pinned (OpenSpec.upto heapSweptSpec)

/-- 'riparianlaw21.HeapAllocates', WHERE WHAT IT READS IS OF BULK AT MOST 1048576: true; the input reads as it did. -/
def heapAllocatesUptoRow : OpenClaim := { program := "ythblpljakpecdaagreat", sum := "193a4fef1e4da500efd7eb4e12a2b20051ffe6c8731ed921780f6aa1c6cd7b91", func := "riparian/riparianlaw21.HeapAllocates", spec := "heapAllocates", unfollowed := true, recurses := true, loops := true, apart := false, narrowed := true }
def HeapAllocatesUptoSaid : Prop := heapAllocatesUptoRow.holds Tryz.pinned (OpenSpec.upto heapAllocatesSpec)

/-- 'riparianlaw21.HeapFollows', WHERE WHAT IT READS IS OF BULK AT MOST 1048576: true; the input reads as it did. -/
def heapFollowsUptoRow : OpenClaim := { program := "ythblpljakpecdaagreat", sum := "193a4fef1e4da500efd7eb4e12a2b20051ffe6c8731ed921780f6aa1c6cd7b91", func := "riparian/riparianlaw21.HeapFollows", spec := "heapFollows", unfollowed := true, recurses := true, loops := true, apart := false, narrowed := true }
def HeapFollowsUptoSaid : Prop := heapFollowsUptoRow.holds Tryz.pinned (OpenSpec.upto heapFollowsSpec)

/-- 'riparianlaw21.HeapBuilds', WHERE WHAT IT READS IS OF BULK AT MOST 1048576: true; the input reads as it did. -/
def heapBuildsUptoRow : OpenClaim := { program := "ythblpljakpecdaagreat", sum := "193a4fef1e4da500efd7eb4e12a2b20051ffe6c8731ed921780f6aa1c6cd7b91", func := "riparian/riparianlaw21.HeapBuilds", spec := "heapBuilds", unfollowed := true, recurses := true, loops := true, apart := false, narrowed := true }
def HeapBuildsUptoSaid : Prop := heapBuildsUptoRow.holds Tryz.pinned (OpenSpec.upto heapBuildsSpec)

/-- 'riparianlaw21.HeapChanges', WHERE WHAT IT READS IS OF BULK AT MOST 1048576: true; the input reads as it did. -/
def heapChangesUptoRow : OpenClaim := { program := "ythblpljakpecdaagreat", sum := "193a4fef1e4da500efd7eb4e12a2b20051ffe6c8731ed921780f6aa1c6cd7b91", func := "riparian/riparianlaw21.HeapChanges", spec := "heapChanges", unfollowed := true, recurses := true, loops := true, apart := false, narrowed := true }
def HeapChangesUptoSaid : Prop := heapChangesUptoRow.holds Tryz.pinned (OpenSpec.upto heapChangesSpec)

end Rows
end Go.Proofs.YthblpljakpecdaaGreat
