/-
  NARROWER THAN 'FOR EVERY INPUT', by the rows' own cells (each row's printed sentence says how): UnifyGeneral: loops · UnifyMerges: loops · UnifyMonotone: loops · UnifyImplies: loops · UnifyStores: loops · UnifyBack: loops · UnifyAcyclic: loops · UnifyWholes: loops.
  DERIVED. THE GIVEN ROWS OF THIS SEAT. 8 by the template 'for every input the law returns true; each argument reads behind the call as it read before'; 0 by the template 'total and deterministic' (their statements: YtefepjpkelfcbaaTotals.lean).
  GIVEN WITH THE SEED: the statements are not yours to turn. If you find one false, say at which input.
  Laid BY PROGRAM, IN A SANDBOX (cutbox-rows.mjs): the forced cells as the released guide's own fill.sh prints them over the translation 8d3ed1520bb56d6f… (all of the seat's roots in one cut). By AI agents, Wed Nov 11 2026. No macro, syntax, notation, axiom, sorry.
-/
import Derived.Test.YtefepjpkelfcbaaChecked
import GoSem.Claim
import GoSem.ClaimJoined
import GoSem.ClaimMapViews
import Derived.JoinedTies
import Derived.KernelRfl
namespace Go.Proofs.Ytefepjpkelfcbaa
/- THE CELL 'sum', in the pinned program and in every row, IS THE sha256 OF THE DUMP (.gsa) THAT YtefepjpkelfcbaaProg.lean LOADS. Nothing in Lean hashes anything: it is a label: what it is worth is what the hold of that sum in a sandbox is worth. -/
noncomputable def Try.pinned : Pinned := { name := "ytefepjpkelfcbaa", sum := "8d3ed1520bb56d6f1a1d1a832597673f5d3b95cd9a476de2303d8be398239f66", checked := Try.checked }
namespace Rows
def none {H : Type} : Left H := { results := [], args := [] }

/-- 'riparianlaw03.UnifyGeneral': WHATEVER THE INPUT: true; the input reads as it did. -/
def unifyGeneralSpec : ChangeSpec := { name := "unifyGeneral", fn := fun _ => fun
  | [d1, d2, d3, d4] => { results := [.lit (.bool true)], args := [d1, d2, d3, d4] }
  | _ => none }
def unifyGeneralRow : OpenClaim := { program := "ytefepjpkelfcbaa", sum := "8d3ed1520bb56d6f1a1d1a832597673f5d3b95cd9a476de2303d8be398239f66", func := "riparian/riparianlaw03.UnifyGeneral", spec := "unifyGeneral", unfollowed := true, recurses := true, loops := true, apart := false }
def UnifyGeneralSaid : Prop := unifyGeneralRow.holds Try.pinned (OpenSpec.ofChange unifyGeneralSpec)

/-- ITS FALSE NEIGHBOUR: 'it returns false'. Refute it at one input. -/
def unifyGeneralWrong : ChangeSpec := { name := "unifyGeneral", fn := fun _ => fun
  | [d1, d2, d3, d4] => { results := [.lit (.bool false)], args := [d1, d2, d3, d4] }
  | _ => none }
def UnifyGeneralWrongFalsely : Prop := unifyGeneralRow.holds Try.pinned (OpenSpec.ofChange unifyGeneralWrong)

/-- 'riparianlaw03.UnifyMerges': WHATEVER THE INPUT: true; the input reads as it did. -/
def unifyMergesSpec : ChangeSpec := { name := "unifyMerges", fn := fun _ => fun
  | [d1, d2, d3] => { results := [.lit (.bool true)], args := [d1, d2, d3] }
  | _ => none }
def unifyMergesRow : OpenClaim := { program := "ytefepjpkelfcbaa", sum := "8d3ed1520bb56d6f1a1d1a832597673f5d3b95cd9a476de2303d8be398239f66", func := "riparian/riparianlaw03.UnifyMerges", spec := "unifyMerges", unfollowed := true, recurses := true, loops := true, apart := false }
def UnifyMergesSaid : Prop := unifyMergesRow.holds Try.pinned (OpenSpec.ofChange unifyMergesSpec)

/-- ITS FALSE NEIGHBOUR: 'it returns false'. Refute it at one input. -/
def unifyMergesWrong : ChangeSpec := { name := "unifyMerges", fn := fun _ => fun
  | [d1, d2, d3] => { results := [.lit (.bool false)], args := [d1, d2, d3] }
  | _ => none }
def UnifyMergesWrongFalsely : Prop := unifyMergesRow.holds Try.pinned (OpenSpec.ofChange unifyMergesWrong)

/-- 'riparianlaw03.UnifyMonotone': WHATEVER THE INPUT: true; the input reads as it did. -/
def unifyMonotoneSpec : ChangeSpec := { name := "unifyMonotone", fn := fun _ => fun
  | [d1, d2, d3, d4] => { results := [.lit (.bool true)], args := [d1, d2, d3, d4] }
  | _ => none }
def unifyMonotoneRow : OpenClaim := { program := "ytefepjpkelfcbaa", sum := "8d3ed1520bb56d6f1a1d1a832597673f5d3b95cd9a476de2303d8be398239f66", func := "riparian/riparianlaw03.UnifyMonotone", spec := "unifyMonotone", unfollowed := true, recurses := true, loops := true, apart := false }
def UnifyMonotoneSaid : Prop := unifyMonotoneRow.holds Try.pinned (OpenSpec.ofChange unifyMonotoneSpec)

/-- ITS FALSE NEIGHBOUR: 'it returns false'. Refute it at one input. -/
def unifyMonotoneWrong : ChangeSpec := { name := "unifyMonotone", fn := fun _ => fun
  | [d1, d2, d3, d4] => { results := [.lit (.bool false)], args := [d1, d2, d3, d4] }
  | _ => none }
def UnifyMonotoneWrongFalsely : Prop := unifyMonotoneRow.holds Try.pinned (OpenSpec.ofChange unifyMonotoneWrong)

/-- 'riparianlaw03.UnifyImplies': WHATEVER THE INPUT: true; the input reads as it did. -/
def unifyImpliesSpec : ChangeSpec := { name := "unifyImplies", fn := fun _ => fun
  | [d1, d2, d3, d4] => { results := [.lit (.bool true)], args := [d1, d2, d3, d4] }
  | _ => none }
def unifyImpliesRow : OpenClaim := { program := "ytefepjpkelfcbaa", sum := "8d3ed1520bb56d6f1a1d1a832597673f5d3b95cd9a476de2303d8be398239f66", func := "riparian/riparianlaw03.UnifyImplies", spec := "unifyImplies", unfollowed := true, recurses := true, loops := true, apart := false }
def UnifyImpliesSaid : Prop := unifyImpliesRow.holds Try.pinned (OpenSpec.ofChange unifyImpliesSpec)

/-- ITS FALSE NEIGHBOUR: 'it returns false'. Refute it at one input. -/
def unifyImpliesWrong : ChangeSpec := { name := "unifyImplies", fn := fun _ => fun
  | [d1, d2, d3, d4] => { results := [.lit (.bool false)], args := [d1, d2, d3, d4] }
  | _ => none }
def UnifyImpliesWrongFalsely : Prop := unifyImpliesRow.holds Try.pinned (OpenSpec.ofChange unifyImpliesWrong)

/-- 'riparianlaw03.UnifyStores': WHATEVER THE INPUT: true; the input reads as it did. -/
def unifyStoresSpec : ChangeSpec := { name := "unifyStores", fn := fun _ => fun
  | [d1, d2] => { results := [.lit (.bool true)], args := [d1, d2] }
  | _ => none }
def unifyStoresRow : OpenClaim := { program := "ytefepjpkelfcbaa", sum := "8d3ed1520bb56d6f1a1d1a832597673f5d3b95cd9a476de2303d8be398239f66", func := "riparian/riparianlaw03.UnifyStores", spec := "unifyStores", unfollowed := true, recurses := true, loops := true, apart := false }
def UnifyStoresSaid : Prop := unifyStoresRow.holds Try.pinned (OpenSpec.ofChange unifyStoresSpec)

/-- ITS FALSE NEIGHBOUR: 'it returns false'. Refute it at one input. -/
def unifyStoresWrong : ChangeSpec := { name := "unifyStores", fn := fun _ => fun
  | [d1, d2] => { results := [.lit (.bool false)], args := [d1, d2] }
  | _ => none }
def UnifyStoresWrongFalsely : Prop := unifyStoresRow.holds Try.pinned (OpenSpec.ofChange unifyStoresWrong)

/-- 'riparianlaw03.UnifyBack': WHATEVER THE INPUT: true; the input reads as it did. -/
def unifyBackSpec : ChangeSpec := { name := "unifyBack", fn := fun _ => fun
  | [d1, d2] => { results := [.lit (.bool true)], args := [d1, d2] }
  | _ => none }
def unifyBackRow : OpenClaim := { program := "ytefepjpkelfcbaa", sum := "8d3ed1520bb56d6f1a1d1a832597673f5d3b95cd9a476de2303d8be398239f66", func := "riparian/riparianlaw03.UnifyBack", spec := "unifyBack", unfollowed := true, recurses := true, loops := true, apart := false }
def UnifyBackSaid : Prop := unifyBackRow.holds Try.pinned (OpenSpec.ofChange unifyBackSpec)

/-- ITS FALSE NEIGHBOUR: 'it returns false'. Refute it at one input. -/
def unifyBackWrong : ChangeSpec := { name := "unifyBack", fn := fun _ => fun
  | [d1, d2] => { results := [.lit (.bool false)], args := [d1, d2] }
  | _ => none }
def UnifyBackWrongFalsely : Prop := unifyBackRow.holds Try.pinned (OpenSpec.ofChange unifyBackWrong)

/-- 'riparianlaw03.UnifyAcyclic': WHATEVER THE INPUT: true; the input reads as it did. -/
def unifyAcyclicSpec : ChangeSpec := { name := "unifyAcyclic", fn := fun _ => fun
  | [d1, d2] => { results := [.lit (.bool true)], args := [d1, d2] }
  | _ => none }
def unifyAcyclicRow : OpenClaim := { program := "ytefepjpkelfcbaa", sum := "8d3ed1520bb56d6f1a1d1a832597673f5d3b95cd9a476de2303d8be398239f66", func := "riparian/riparianlaw03.UnifyAcyclic", spec := "unifyAcyclic", unfollowed := true, recurses := true, loops := true, apart := false }
def UnifyAcyclicSaid : Prop := unifyAcyclicRow.holds Try.pinned (OpenSpec.ofChange unifyAcyclicSpec)

/-- ITS FALSE NEIGHBOUR: 'it returns false'. Refute it at one input. -/
def unifyAcyclicWrong : ChangeSpec := { name := "unifyAcyclic", fn := fun _ => fun
  | [d1, d2] => { results := [.lit (.bool false)], args := [d1, d2] }
  | _ => none }
def UnifyAcyclicWrongFalsely : Prop := unifyAcyclicRow.holds Try.pinned (OpenSpec.ofChange unifyAcyclicWrong)

/-- 'riparianlaw03.UnifyWholes': WHATEVER THE INPUT: true; the input reads as it did. -/
def unifyWholesSpec : ChangeSpec := { name := "unifyWholes", fn := fun _ => fun
  | [d1, d2, d3, d4] => { results := [.lit (.bool true)], args := [d1, d2, d3, d4] }
  | _ => none }
def unifyWholesRow : OpenClaim := { program := "ytefepjpkelfcbaa", sum := "8d3ed1520bb56d6f1a1d1a832597673f5d3b95cd9a476de2303d8be398239f66", func := "riparian/riparianlaw03.UnifyWholes", spec := "unifyWholes", unfollowed := true, recurses := true, loops := true, apart := false }
def UnifyWholesSaid : Prop := unifyWholesRow.holds Try.pinned (OpenSpec.ofChange unifyWholesSpec)

/-- ITS FALSE NEIGHBOUR: 'it returns false'. Refute it at one input. -/
def unifyWholesWrong : ChangeSpec := { name := "unifyWholes", fn := fun _ => fun
  | [d1, d2, d3, d4] => { results := [.lit (.bool false)], args := [d1, d2, d3, d4] }
  | _ => none }
def UnifyWholesWrongFalsely : Prop := unifyWholesRow.holds Try.pinned (OpenSpec.ofChange unifyWholesWrong)

/- THE SECOND FORM. 'bulk': how many values and letters a reading holds, each counted each time it is reached (what is shared counts as often as it is met; a slice's spare places count too). A statement '..UptoSaid' is the law's where the arguments, and the package variables that the reading takes, are together of bulk at most 1048576: NARROWER than '..Said'. Prove '..Said' where nothing that the law and all that it calls make is longer than what came in: it says more and counts as full. Else prove '..UptoSaid'. A law counts once. -/
mutual
def uptoBulk {H : Type} : DataW H → Nat
  | .lit (.string bytes) => bytes.length + 1
  | .lit _ => 1
  | .nil => 1
  | .ptr d => uptoBulk d + 1
  | .slice elems spare => uptoBulkAll elems + uptoBulkAll spare + 1
  | .agg parts => uptoBulkAll parts + 1
  | .iface _ d => uptoBulk d + 1
  | .map entries => uptoBulkEntries entries + 1
  | .held _ => 1
def uptoBulkAll {H : Type} : List (DataW H) → Nat
  | [] => 0
  | d :: r => uptoBulk d + uptoBulkAll r
def uptoBulkEntries {H : Type} : List (Lit × DataW H) → Nat
  | [] => 0
  | x :: r => uptoBulkEntry x + uptoBulkEntries r
def uptoBulkEntry {H : Type} : Lit × DataW H → Nat
  | (.string bytes, d) => bytes.length + uptoBulk d + 1
  | (_, d) => uptoBulk d + 1
 end
def uptoSmall : (H : Type) → List (DataW H) → Bool := fun _ ds => decide (uptoBulkAll ds ≤ 1048576)
def OpenSpec.upto (s : _root_.Go.ChangeSpec) : _root_.Go.OpenSpec := { _root_.Go.OpenSpec.ofChange s with cond := some uptoSmall }

/-- 'riparianlaw03.UnifyGeneral', WHERE WHAT IT READS IS OF BULK AT MOST 1048576: true; the input reads as it did. -/
def unifyGeneralUptoRow : OpenClaim := { program := "ytefepjpkelfcbaa", sum := "8d3ed1520bb56d6f1a1d1a832597673f5d3b95cd9a476de2303d8be398239f66", func := "riparian/riparianlaw03.UnifyGeneral", spec := "unifyGeneral", unfollowed := true, recurses := true, loops := true, apart := false, narrowed := true }
def UnifyGeneralUptoSaid : Prop := unifyGeneralUptoRow.holds Try.pinned (OpenSpec.upto unifyGeneralSpec)

/-- 'riparianlaw03.UnifyMerges', WHERE WHAT IT READS IS OF BULK AT MOST 1048576: true; the input reads as it did. -/
def unifyMergesUptoRow : OpenClaim := { program := "ytefepjpkelfcbaa", sum := "8d3ed1520bb56d6f1a1d1a832597673f5d3b95cd9a476de2303d8be398239f66", func := "riparian/riparianlaw03.UnifyMerges", spec := "unifyMerges", unfollowed := true, recurses := true, loops := true, apart := false, narrowed := true }
def UnifyMergesUptoSaid : Prop := unifyMergesUptoRow.holds Try.pinned (OpenSpec.upto unifyMergesSpec)

/-- 'riparianlaw03.UnifyMonotone', WHERE WHAT IT READS IS OF BULK AT MOST 1048576: true; the input reads as it did. -/
def unifyMonotoneUptoRow : OpenClaim := { program := "ytefepjpkelfcbaa", sum := "8d3ed1520bb56d6f1a1d1a832597673f5d3b95cd9a476de2303d8be398239f66", func := "riparian/riparianlaw03.UnifyMonotone", spec := "unifyMonotone", unfollowed := true, recurses := true, loops := true, apart := false, narrowed := true }
def UnifyMonotoneUptoSaid : Prop := unifyMonotoneUptoRow.holds Try.pinned (OpenSpec.upto unifyMonotoneSpec)

/-- 'riparianlaw03.UnifyImplies', WHERE WHAT IT READS IS OF BULK AT MOST 1048576: true; the input reads as it did. -/
def unifyImpliesUptoRow : OpenClaim := { program := "ytefepjpkelfcbaa", sum := "8d3ed1520bb56d6f1a1d1a832597673f5d3b95cd9a476de2303d8be398239f66", func := "riparian/riparianlaw03.UnifyImplies", spec := "unifyImplies", unfollowed := true, recurses := true, loops := true, apart := false, narrowed := true }
def UnifyImpliesUptoSaid : Prop := unifyImpliesUptoRow.holds Try.pinned (OpenSpec.upto unifyImpliesSpec)

/-- 'riparianlaw03.UnifyStores', WHERE WHAT IT READS IS OF BULK AT MOST 1048576: true; the input reads as it did. -/
def unifyStoresUptoRow : OpenClaim := { program := "ytefepjpkelfcbaa", sum := "8d3ed1520bb56d6f1a1d1a832597673f5d3b95cd9a476de2303d8be398239f66", func := "riparian/riparianlaw03.UnifyStores", spec := "unifyStores", unfollowed := true, recurses := true, loops := true, apart := false, narrowed := true }
def UnifyStoresUptoSaid : Prop := unifyStoresUptoRow.holds Try.pinned (OpenSpec.upto unifyStoresSpec)

/-- 'riparianlaw03.UnifyBack', WHERE WHAT IT READS IS OF BULK AT MOST 1048576: true; the input reads as it did. -/
def unifyBackUptoRow : OpenClaim := { program := "ytefepjpkelfcbaa", sum := "8d3ed1520bb56d6f1a1d1a832597673f5d3b95cd9a476de2303d8be398239f66", func := "riparian/riparianlaw03.UnifyBack", spec := "unifyBack", unfollowed := true, recurses := true, loops := true, apart := false, narrowed := true }
def UnifyBackUptoSaid : Prop := unifyBackUptoRow.holds Try.pinned (OpenSpec.upto unifyBackSpec)

/-- 'riparianlaw03.UnifyAcyclic', WHERE WHAT IT READS IS OF BULK AT MOST 1048576: true; the input reads as it did. -/
def unifyAcyclicUptoRow : OpenClaim := { program := "ytefepjpkelfcbaa", sum := "8d3ed1520bb56d6f1a1d1a832597673f5d3b95cd9a476de2303d8be398239f66", func := "riparian/riparianlaw03.UnifyAcyclic", spec := "unifyAcyclic", unfollowed := true, recurses := true, loops := true, apart := false, narrowed := true }
def UnifyAcyclicUptoSaid : Prop := unifyAcyclicUptoRow.holds Try.pinned (OpenSpec.upto unifyAcyclicSpec)

/-- 'riparianlaw03.UnifyWholes', WHERE WHAT IT READS IS OF BULK AT MOST 1048576: true; the input reads as it did. -/
def unifyWholesUptoRow : OpenClaim := { program := "ytefepjpkelfcbaa", sum := "8d3ed1520bb56d6f1a1d1a832597673f5d3b95cd9a476de2303d8be398239f66", func := "riparian/riparianlaw03.UnifyWholes", spec := "unifyWholes", unfollowed := true, recurses := true, loops := true, apart := false, narrowed := true }
def UnifyWholesUptoSaid : Prop := unifyWholesUptoRow.holds Try.pinned (OpenSpec.upto unifyWholesSpec)

end Rows
end Go.Proofs.Ytefepjpkelfcbaa
