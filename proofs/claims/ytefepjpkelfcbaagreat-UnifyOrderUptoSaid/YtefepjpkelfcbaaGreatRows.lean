/-
  NARROWER THAN 'FOR EVERY INPUT', by the rows' own cells (each row's printed sentence says how): UnifyValues: loops · UnifyTerms: loops · UnifyRelations: loops · UnifySolvers: loops · UnifySubst: loops · UnifyOrder: loops.
  DERIVED. THE GIVEN ROWS OF THIS SEAT. 6 by the template 'for every input the law returns true; each argument reads behind the call as it read before'; 0 by the template 'total and deterministic' (their statements: YtefepjpkelfcbaaGreatTotals.lean).
  GIVEN WITH THE SEED: the statements are not yours to turn. If you find one false, say at which input.
  Laid BY PROGRAM, IN A SANDBOX (cutbox-rows.mjs): the forced cells as the released guide's own fill.sh prints them over the translation 54fe43340758d0a7… (all of the seat's roots in one cut). By AI agents, Wed Nov 11 2026. No macro, syntax, notation, axiom, sorry.
-/
import Derived.Test.YtefepjpkelfcbaaGreatChecked
import GoSem.Claim
import GoSem.ClaimJoined
import GoSem.ClaimMapViews
import Derived.JoinedTies
import Derived.KernelRfl
namespace Go.Proofs.YtefepjpkelfcbaaGreat
/- THE CELL 'sum', in the pinned program and in every row, IS THE sha256 OF THE DUMP (.gsa) THAT YtefepjpkelfcbaaGreatProg.lean LOADS. Nothing in Lean hashes anything: it is a label: what it is worth is what the hold of that sum in a sandbox is worth. -/
noncomputable def Tryz.pinned : Pinned := { name := "ytefepjpkelfcbaagreat", sum := "54fe43340758d0a72f918167fbf6ad9e4f01c452c5afb578e467498bf0af48ad", checked := Tryz.checked }
namespace Rows
def none {H : Type} : Left H := { results := [], args := [] }

/-- 'riparianlaw03.UnifyValues': WHATEVER THE INPUT: true; the input reads as it did. -/
def unifyValuesSpec : ChangeSpec := { name := "unifyValues", fn := fun _ => fun
  | [d1, d2, d3] => { results := [.lit (.bool true)], args := [d1, d2, d3] }
  | _ => none }
def unifyValuesRow : OpenClaim := { program := "ytefepjpkelfcbaagreat", sum := "54fe43340758d0a72f918167fbf6ad9e4f01c452c5afb578e467498bf0af48ad", func := "riparian/riparianlaw03.UnifyValues", spec := "unifyValues", unfollowed := true, recurses := true, loops := true, apart := false }
def UnifyValuesSaid : Prop := unifyValuesRow.holds Tryz.pinned (OpenSpec.ofChange unifyValuesSpec)

/-- ITS FALSE NEIGHBOUR: 'it returns false'. Refute it at one input. -/
def unifyValuesWrong : ChangeSpec := { name := "unifyValues", fn := fun _ => fun
  | [d1, d2, d3] => { results := [.lit (.bool false)], args := [d1, d2, d3] }
  | _ => none }
def UnifyValuesWrongFalsely : Prop := unifyValuesRow.holds Tryz.pinned (OpenSpec.ofChange unifyValuesWrong)

/-- 'riparianlaw03.UnifyTerms': WHATEVER THE INPUT: true; the input reads as it did. -/
def unifyTermsSpec : ChangeSpec := { name := "unifyTerms", fn := fun _ => fun
  | [d1, d2, d3] => { results := [.lit (.bool true)], args := [d1, d2, d3] }
  | _ => none }
def unifyTermsRow : OpenClaim := { program := "ytefepjpkelfcbaagreat", sum := "54fe43340758d0a72f918167fbf6ad9e4f01c452c5afb578e467498bf0af48ad", func := "riparian/riparianlaw03.UnifyTerms", spec := "unifyTerms", unfollowed := true, recurses := true, loops := true, apart := false }
def UnifyTermsSaid : Prop := unifyTermsRow.holds Tryz.pinned (OpenSpec.ofChange unifyTermsSpec)

/-- ITS FALSE NEIGHBOUR: 'it returns false'. Refute it at one input. -/
def unifyTermsWrong : ChangeSpec := { name := "unifyTerms", fn := fun _ => fun
  | [d1, d2, d3] => { results := [.lit (.bool false)], args := [d1, d2, d3] }
  | _ => none }
def UnifyTermsWrongFalsely : Prop := unifyTermsRow.holds Tryz.pinned (OpenSpec.ofChange unifyTermsWrong)

/-- 'riparianlaw03.UnifyRelations': WHATEVER THE INPUT: true; the input reads as it did. -/
def unifyRelationsSpec : ChangeSpec := { name := "unifyRelations", fn := fun _ => fun
  | [d1, d2, d3, d4] => { results := [.lit (.bool true)], args := [d1, d2, d3, d4] }
  | _ => none }
def unifyRelationsRow : OpenClaim := { program := "ytefepjpkelfcbaagreat", sum := "54fe43340758d0a72f918167fbf6ad9e4f01c452c5afb578e467498bf0af48ad", func := "riparian/riparianlaw03.UnifyRelations", spec := "unifyRelations", unfollowed := true, recurses := true, loops := true, apart := false }
def UnifyRelationsSaid : Prop := unifyRelationsRow.holds Tryz.pinned (OpenSpec.ofChange unifyRelationsSpec)

/-- ITS FALSE NEIGHBOUR: 'it returns false'. Refute it at one input. -/
def unifyRelationsWrong : ChangeSpec := { name := "unifyRelations", fn := fun _ => fun
  | [d1, d2, d3, d4] => { results := [.lit (.bool false)], args := [d1, d2, d3, d4] }
  | _ => none }
def UnifyRelationsWrongFalsely : Prop := unifyRelationsRow.holds Tryz.pinned (OpenSpec.ofChange unifyRelationsWrong)

/-- 'riparianlaw03.UnifySolvers': WHATEVER THE INPUT: true; the input reads as it did. -/
def unifySolversSpec : ChangeSpec := { name := "unifySolvers", fn := fun _ => fun
  | [d1, d2] => { results := [.lit (.bool true)], args := [d1, d2] }
  | _ => none }
def unifySolversRow : OpenClaim := { program := "ytefepjpkelfcbaagreat", sum := "54fe43340758d0a72f918167fbf6ad9e4f01c452c5afb578e467498bf0af48ad", func := "riparian/riparianlaw03.UnifySolvers", spec := "unifySolvers", unfollowed := true, recurses := true, loops := true, apart := false }
def UnifySolversSaid : Prop := unifySolversRow.holds Tryz.pinned (OpenSpec.ofChange unifySolversSpec)

/-- ITS FALSE NEIGHBOUR: 'it returns false'. Refute it at one input. -/
def unifySolversWrong : ChangeSpec := { name := "unifySolvers", fn := fun _ => fun
  | [d1, d2] => { results := [.lit (.bool false)], args := [d1, d2] }
  | _ => none }
def UnifySolversWrongFalsely : Prop := unifySolversRow.holds Tryz.pinned (OpenSpec.ofChange unifySolversWrong)

/-- 'riparianlaw03.UnifySubst': WHATEVER THE INPUT: true; the input reads as it did. -/
def unifySubstSpec : ChangeSpec := { name := "unifySubst", fn := fun _ => fun
  | [d1, d2] => { results := [.lit (.bool true)], args := [d1, d2] }
  | _ => none }
def unifySubstRow : OpenClaim := { program := "ytefepjpkelfcbaagreat", sum := "54fe43340758d0a72f918167fbf6ad9e4f01c452c5afb578e467498bf0af48ad", func := "riparian/riparianlaw03.UnifySubst", spec := "unifySubst", unfollowed := true, recurses := true, loops := true, apart := false }
def UnifySubstSaid : Prop := unifySubstRow.holds Tryz.pinned (OpenSpec.ofChange unifySubstSpec)

/-- ITS FALSE NEIGHBOUR: 'it returns false'. Refute it at one input. -/
def unifySubstWrong : ChangeSpec := { name := "unifySubst", fn := fun _ => fun
  | [d1, d2] => { results := [.lit (.bool false)], args := [d1, d2] }
  | _ => none }
def UnifySubstWrongFalsely : Prop := unifySubstRow.holds Tryz.pinned (OpenSpec.ofChange unifySubstWrong)

/-- 'riparianlaw03.UnifyOrder': WHATEVER THE INPUT: true; the input reads as it did. -/
def unifyOrderSpec : ChangeSpec := { name := "unifyOrder", fn := fun _ => fun
  | [d1, d2, d3] => { results := [.lit (.bool true)], args := [d1, d2, d3] }
  | _ => none }
def unifyOrderRow : OpenClaim := { program := "ytefepjpkelfcbaagreat", sum := "54fe43340758d0a72f918167fbf6ad9e4f01c452c5afb578e467498bf0af48ad", func := "riparian/riparianlaw03.UnifyOrder", spec := "unifyOrder", unfollowed := true, recurses := true, loops := true, apart := false }
def UnifyOrderSaid : Prop := unifyOrderRow.holds Tryz.pinned (OpenSpec.ofChange unifyOrderSpec)

/-- ITS FALSE NEIGHBOUR: 'it returns false'. Refute it at one input. -/
def unifyOrderWrong : ChangeSpec := { name := "unifyOrder", fn := fun _ => fun
  | [d1, d2, d3] => { results := [.lit (.bool false)], args := [d1, d2, d3] }
  | _ => none }
def UnifyOrderWrongFalsely : Prop := unifyOrderRow.holds Tryz.pinned (OpenSpec.ofChange unifyOrderWrong)

/- THE SECOND FORM. 'bulk': how many values and letters a reading holds, each counted each time it is reached (what is shared counts as often as it is met; a slice's spare places count too). A statement '..UptoSaid' is the law's where the arguments, and the package variables that the reading takes, are together of bulk at most 1048576: NARROWER than '..Said'. Prove '..Said' where nothing that the law and all that it calls make is longer than what came in: it says more and counts as full. Else prove '..UptoSaid'. A law counts once. -/
mutual
def uptoBulk {H : Type} : DataW H → Nat
  | .lit (.string bytes) => bytes.length + 1
  | .lit _ => 1
  | .nil => 1
  | .ptr d => uptoBulk d + 1
  | .slice elems spare => uptoBulkAll elems + uptoBulkAll spare + 1
  | .agg parts => uptoBulkAll parts + 1
  | .iface _ d => uptoBulk d + 1
  | .map entries => uptoBulkEntries entries + 1
  | .held _ => 1
def uptoBulkAll {H : Type} : List (DataW H) → Nat
  | [] => 0
  | d :: r => uptoBulk d + uptoBulkAll r
def uptoBulkEntries {H : Type} : List (Lit × DataW H) → Nat
  | [] => 0
  | x :: r => uptoBulkEntry x + uptoBulkEntries r
def uptoBulkEntry {H : Type} : Lit × DataW H → Nat
  | (.string bytes, d) => bytes.length + uptoBulk d + 1
  | (_, d) => uptoBulk d + 1
 end
def uptoSmall : (H : Type) → List (DataW H) → Bool := fun _ ds => decide (uptoBulkAll ds ≤ 1048576)
def OpenSpec.upto (s : _root_.Go.ChangeSpec) : _root_.Go.OpenSpec := { _root_.Go.OpenSpec.ofChange s with cond := some uptoSmall }

/-- 'riparianlaw03.UnifyValues', WHERE WHAT IT READS IS OF BULK AT MOST 1048576: true; the input reads as it did. -/
def unifyValuesUptoRow : OpenClaim := { program := "ytefepjpkelfcbaagreat", sum := "54fe43340758d0a72f918167fbf6ad9e4f01c452c5afb578e467498bf0af48ad", func := "riparian/riparianlaw03.UnifyValues", spec := "unifyValues", unfollowed := true, recurses := true, loops := true, apart := false, narrowed := true }
def UnifyValuesUptoSaid : Prop := unifyValuesUptoRow.holds Tryz.pinned (OpenSpec.upto unifyValuesSpec)

/-- 'riparianlaw03.UnifyTerms', WHERE WHAT IT READS IS OF BULK AT MOST 1048576: true; the input reads as it did. -/
def unifyTermsUptoRow : OpenClaim := { program := "ytefepjpkelfcbaagreat", sum := "54fe43340758d0a72f918167fbf6ad9e4f01c452c5afb578e467498bf0af48ad", func := "riparian/riparianlaw03.UnifyTerms", spec := "unifyTerms", unfollowed := true, recurses := true, loops := true, apart := false, narrowed := true }
def UnifyTermsUptoSaid : Prop := unifyTermsUptoRow.holds Tryz.pinned (OpenSpec.upto unifyTermsSpec)

/-- 'riparianlaw03.UnifyRelations', WHERE WHAT IT READS IS OF BULK AT MOST 1048576: true; the input reads as it did. -/
def unifyRelationsUptoRow : OpenClaim := { program := "ytefepjpkelfcbaagreat", sum := "54fe43340758d0a72f918167fbf6ad9e4f01c452c5afb578e467498bf0af48ad", func := "riparian/riparianlaw03.UnifyRelations", spec := "unifyRelations", unfollowed := true, recurses := true, loops := true, apart := false, narrowed := true }
def UnifyRelationsUptoSaid : Prop := unifyRelationsUptoRow.holds Tryz.pinned (OpenSpec.upto unifyRelationsSpec)

/-- 'riparianlaw03.UnifySolvers', WHERE WHAT IT READS IS OF BULK AT MOST 1048576: true; the input reads as it did. -/
def unifySolversUptoRow : OpenClaim := { program := "ytefepjpkelfcbaagreat", sum := "54fe43340758d0a72f918167fbf6ad9e4f01c452c5afb578e467498bf0af48ad", func := "riparian/riparianlaw03.UnifySolvers", spec := "unifySolvers", unfollowed := true, recurses := true, loops := true, apart := false, narrowed := true }
def UnifySolversUptoSaid : Prop := unifySolversUptoRow.holds Tryz.pinned (OpenSpec.upto unifySolversSpec)

/-- 'riparianlaw03.UnifySubst', WHERE WHAT IT READS IS OF BULK AT MOST 1048576: true; the input reads as it did. -/
def unifySubstUptoRow : OpenClaim := { program := "ytefepjpkelfcbaagreat", sum := "54fe43340758d0a72f918167fbf6ad9e4f01c452c5afb578e467498bf0af48ad", func := "riparian/riparianlaw03.UnifySubst", spec := "unifySubst", unfollowed := true, recurses := true, loops := true, apart := false, narrowed := true }
def UnifySubstUptoSaid : Prop := unifySubstUptoRow.holds Tryz.pinned (OpenSpec.upto unifySubstSpec)

/-- 'riparianlaw03.UnifyOrder', WHERE WHAT IT READS IS OF BULK AT MOST 1048576: true; the input reads as it did. -/
def unifyOrderUptoRow : OpenClaim := { program := "ytefepjpkelfcbaagreat", sum := "54fe43340758d0a72f918167fbf6ad9e4f01c452c5afb578e467498bf0af48ad", func := "riparian/riparianlaw03.UnifyOrder", spec := "unifyOrder", unfollowed := true, recurses := true, loops := true, apart := false, narrowed := true }
def UnifyOrderUptoSaid : Prop := unifyOrderUptoRow.holds Tryz.pinned (OpenSpec.upto unifyOrderSpec)

end Rows
end Go.Proofs.YtefepjpkelfcbaaGreat
