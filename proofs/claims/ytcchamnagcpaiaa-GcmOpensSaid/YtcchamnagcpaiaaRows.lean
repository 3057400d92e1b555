/-
  No cell of these rows narrows 'for every input' (looked for: loops, veiled, ifaces, maps, wideKeys, modest, calm, conditions, laid).
  DERIVED. THE GIVEN ROWS OF THIS SEAT. 9 by the template 'for every input the law returns true; each argument reads behind the call as it read before'; 0 by the template 'total and deterministic' (their statements: YtcchamnagcpaiaaTotals.lean).
  GIVEN WITH THE SEED: the statements are not yours to turn. If you find one false, say at which input.
  Laid BY PROGRAM, IN A SANDBOX (cutbox-rows.mjs): the forced cells as the released guide's own fill.sh prints them over the translation a4cd7b3db38862ed… (all of the seat's roots in one cut). By AI agents, Wed Nov 11 2026. No macro, syntax, notation, axiom, sorry.
-/
import Derived.Test.YtcchamnagcpaiaaChecked
import GoSem.Claim
import GoSem.ClaimJoined
import GoSem.ClaimMapViews
import Derived.JoinedTies
import Derived.KernelRfl
namespace Go.Proofs.Ytcchamnagcpaiaa
/- THE CELL 'sum', in the pinned program and in every row, IS THE sha256 OF THE DUMP (.gsa) THAT YtcchamnagcpaiaaProg.lean LOADS. Nothing in Lean hashes anything: it is a label: what it is worth is what the hold of that sum in a sandbox is worth. -/
noncomputable def Try.pinned : Pinned := { name := "ytcchamnagcpaiaa", sum := "a4cd7b3db38862ed98e645db26a8529eeb25c8591e68e0b61b760e510b2949e9", checked := Try.checked }
namespace Rows
def none {H : Type} : Left H := { results := [], args := [] }

/-- 'deedboxlaw09.DiskDoes': WHATEVER THE INPUT: true; the input reads as it did. -/
def diskDoesSpec : ChangeSpec := { name := "diskDoes", fn := fun _ => fun
  | [d1, d2, d3, d4] => { results := [.lit (.bool true)], args := [d1, d2, d3, d4] }
  | _ => none }
def diskDoesRow : OpenClaim := { program := "ytcchamnagcpaiaa", sum := "a4cd7b3db38862ed98e645db26a8529eeb25c8591e68e0b61b760e510b2949e9", func := "deedbox/deedboxlaw09.DiskDoes", spec := "diskDoes", unfollowed := true, recurses := true, apart := false }
def DiskDoesSaid : Prop := diskDoesRow.holds Try.pinned (OpenSpec.ofChange diskDoesSpec)

/-- ITS FALSE NEIGHBOUR: 'it returns false'. Refute it at one input. -/
def diskDoesWrong : ChangeSpec := { name := "diskDoes", fn := fun _ => fun
  | [d1, d2, d3, d4] => { results := [.lit (.bool false)], args := [d1, d2, d3, d4] }
  | _ => none }
def DiskDoesWrongFalsely : Prop := diskDoesRow.holds Try.pinned (OpenSpec.ofChange diskDoesWrong)

/-- 'deedboxlaw14.AnchorPuts': WHATEVER THE INPUT: true; the input reads as it did. -/
def anchorPutsSpec : ChangeSpec := { name := "anchorPuts", fn := fun _ => fun
  | [d1, d2, d3] => { results := [.lit (.bool true)], args := [d1, d2, d3] }
  | _ => none }
def anchorPutsRow : OpenClaim := { program := "ytcchamnagcpaiaa", sum := "a4cd7b3db38862ed98e645db26a8529eeb25c8591e68e0b61b760e510b2949e9", func := "deedbox/deedboxlaw14.AnchorPuts", spec := "anchorPuts", unfollowed := true, recurses := true, apart := false }
def AnchorPutsSaid : Prop := anchorPutsRow.holds Try.pinned (OpenSpec.ofChange anchorPutsSpec)

/-- ITS FALSE NEIGHBOUR: 'it returns false'. Refute it at one input. -/
def anchorPutsWrong : ChangeSpec := { name := "anchorPuts", fn := fun _ => fun
  | [d1, d2, d3] => { results := [.lit (.bool false)], args := [d1, d2, d3] }
  | _ => none }
def AnchorPutsWrongFalsely : Prop := anchorPutsRow.holds Try.pinned (OpenSpec.ofChange anchorPutsWrong)

/-- 'deedboxlaw14.AnchorDoes': WHATEVER THE INPUT: true; the input reads as it did. -/
def anchorDoesSpec : ChangeSpec := { name := "anchorDoes", fn := fun _ => fun
  | [d] => { results := [.lit (.bool true)], args := [d] }
  | _ => none }
def anchorDoesRow : OpenClaim := { program := "ytcchamnagcpaiaa", sum := "a4cd7b3db38862ed98e645db26a8529eeb25c8591e68e0b61b760e510b2949e9", func := "deedbox/deedboxlaw14.AnchorDoes", spec := "anchorDoes", unfollowed := true, recurses := true, apart := false }
def AnchorDoesSaid : Prop := anchorDoesRow.holds Try.pinned (OpenSpec.ofChange anchorDoesSpec)

/-- ITS FALSE NEIGHBOUR: 'it returns false'. Refute it at one input. -/
def anchorDoesWrong : ChangeSpec := { name := "anchorDoes", fn := fun _ => fun
  | [d] => { results := [.lit (.bool false)], args := [d] }
  | _ => none }
def AnchorDoesWrongFalsely : Prop := anchorDoesRow.holds Try.pinned (OpenSpec.ofChange anchorDoesWrong)

/-- 'deedboxlaw14.AnchorKeeps': WHATEVER THE INPUT: true; the input reads as it did. -/
def anchorKeepsSpec : ChangeSpec := { name := "anchorKeeps", fn := fun _ => fun
  | [d1, d2, d3] => { results := [.lit (.bool true)], args := [d1, d2, d3] }
  | _ => none }
def anchorKeepsRow : OpenClaim := { program := "ytcchamnagcpaiaa", sum := "a4cd7b3db38862ed98e645db26a8529eeb25c8591e68e0b61b760e510b2949e9", func := "deedbox/deedboxlaw14.AnchorKeeps", spec := "anchorKeeps", unfollowed := true, recurses := true, apart := false }
def AnchorKeepsSaid : Prop := anchorKeepsRow.holds Try.pinned (OpenSpec.ofChange anchorKeepsSpec)

/-- ITS FALSE NEIGHBOUR: 'it returns false'. Refute it at one input. -/
def anchorKeepsWrong : ChangeSpec := { name := "anchorKeeps", fn := fun _ => fun
  | [d1, d2, d3] => { results := [.lit (.bool false)], args := [d1, d2, d3] }
  | _ => none }
def AnchorKeepsWrongFalsely : Prop := anchorKeepsRow.holds Try.pinned (OpenSpec.ofChange anchorKeepsWrong)

/-- 'deedboxlaw14.AnchorRises': WHATEVER THE INPUT: true; the input reads as it did. -/
def anchorRisesSpec : ChangeSpec := { name := "anchorRises", fn := fun _ => fun
  | [d] => { results := [.lit (.bool true)], args := [d] }
  | _ => none }
def anchorRisesRow : OpenClaim := { program := "ytcchamnagcpaiaa", sum := "a4cd7b3db38862ed98e645db26a8529eeb25c8591e68e0b61b760e510b2949e9", func := "deedbox/deedboxlaw14.AnchorRises", spec := "anchorRises", unfollowed := true, recurses := true, apart := false }
def AnchorRisesSaid : Prop := anchorRisesRow.holds Try.pinned (OpenSpec.ofChange anchorRisesSpec)

/-- ITS FALSE NEIGHBOUR: 'it returns false'. Refute it at one input. -/
def anchorRisesWrong : ChangeSpec := { name := "anchorRises", fn := fun _ => fun
  | [d] => { results := [.lit (.bool false)], args := [d] }
  | _ => none }
def AnchorRisesWrongFalsely : Prop := anchorRisesRow.holds Try.pinned (OpenSpec.ofChange anchorRisesWrong)

/-- 'deedboxlaw06.GcmSeals': WHATEVER THE INPUT: true; the input reads as it did. -/
def gcmSealsSpec : ChangeSpec := { name := "gcmSeals", fn := fun _ => fun
  | [d1, d2, d3, d4] => { results := [.lit (.bool true)], args := [d1, d2, d3, d4] }
  | _ => none }
def gcmSealsRow : OpenClaim := { program := "ytcchamnagcpaiaa", sum := "a4cd7b3db38862ed98e645db26a8529eeb25c8591e68e0b61b760e510b2949e9", func := "deedbox/deedboxlaw06.GcmSeals", spec := "gcmSeals", unfollowed := true, recurses := true, apart := false }
def GcmSealsSaid : Prop := gcmSealsRow.holds Try.pinned (OpenSpec.ofChange gcmSealsSpec)

/-- ITS FALSE NEIGHBOUR: 'it returns false'. Refute it at one input. -/
def gcmSealsWrong : ChangeSpec := { name := "gcmSeals", fn := fun _ => fun
  | [d1, d2, d3, d4] => { results := [.lit (.bool false)], args := [d1, d2, d3, d4] }
  | _ => none }
def GcmSealsWrongFalsely : Prop := gcmSealsRow.holds Try.pinned (OpenSpec.ofChange gcmSealsWrong)

/-- 'deedboxlaw06.GcmOpens': WHATEVER THE INPUT: true; the input reads as it did. -/
def gcmOpensSpec : ChangeSpec := { name := "gcmOpens", fn := fun _ => fun
  | [d1, d2, d3, d4] => { results := [.lit (.bool true)], args := [d1, d2, d3, d4] }
  | _ => none }
def gcmOpensRow : OpenClaim := { program := "ytcchamnagcpaiaa", sum := "a4cd7b3db38862ed98e645db26a8529eeb25c8591e68e0b61b760e510b2949e9", func := "deedbox/deedboxlaw06.GcmOpens", spec := "gcmOpens", unfollowed := true, recurses := true, apart := false }
def GcmOpensSaid : Prop := gcmOpensRow.holds Try.pinned (OpenSpec.ofChange gcmOpensSpec)

/-- ITS FALSE NEIGHBOUR: 'it returns false'. Refute it at one input. -/
def gcmOpensWrong : ChangeSpec := { name := "gcmOpens", fn := fun _ => fun
  | [d1, d2, d3, d4] => { results := [.lit (.bool false)], args := [d1, d2, d3, d4] }
  | _ => none }
def GcmOpensWrongFalsely : Prop := gcmOpensRow.holds Try.pinned (OpenSpec.ofChange gcmOpensWrong)

/-- 'deedboxlaw06.GcmBack': WHATEVER THE INPUT: true; the input reads as it did. -/
def gcmBackSpec : ChangeSpec := { name := "gcmBack", fn := fun _ => fun
  | [d1, d2, d3, d4, d5] => { results := [.lit (.bool true)], args := [d1, d2, d3, d4, d5] }
  | _ => none }
def gcmBackRow : OpenClaim := { program := "ytcchamnagcpaiaa", sum := "a4cd7b3db38862ed98e645db26a8529eeb25c8591e68e0b61b760e510b2949e9", func := "deedbox/deedboxlaw06.GcmBack", spec := "gcmBack", unfollowed := true, recurses := true, apart := false }
def GcmBackSaid : Prop := gcmBackRow.holds Try.pinned (OpenSpec.ofChange gcmBackSpec)

/-- ITS FALSE NEIGHBOUR: 'it returns false'. Refute it at one input. -/
def gcmBackWrong : ChangeSpec := { name := "gcmBack", fn := fun _ => fun
  | [d1, d2, d3, d4, d5] => { results := [.lit (.bool false)], args := [d1, d2, d3, d4, d5] }
  | _ => none }
def GcmBackWrongFalsely : Prop := gcmBackRow.holds Try.pinned (OpenSpec.ofChange gcmBackWrong)

/-- 'deedboxlaw06.GcmTag': WHATEVER THE INPUT: true; the input reads as it did. -/
def gcmTagSpec : ChangeSpec := { name := "gcmTag", fn := fun _ => fun
  | [d1, d2, d3, d4, d5] => { results := [.lit (.bool true)], args := [d1, d2, d3, d4, d5] }
  | _ => none }
def gcmTagRow : OpenClaim := { program := "ytcchamnagcpaiaa", sum := "a4cd7b3db38862ed98e645db26a8529eeb25c8591e68e0b61b760e510b2949e9", func := "deedbox/deedboxlaw06.GcmTag", spec := "gcmTag", unfollowed := true, recurses := true, apart := false }
def GcmTagSaid : Prop := gcmTagRow.holds Try.pinned (OpenSpec.ofChange gcmTagSpec)

/-- ITS FALSE NEIGHBOUR: 'it returns false'. Refute it at one input. -/
def gcmTagWrong : ChangeSpec := { name := "gcmTag", fn := fun _ => fun
  | [d1, d2, d3, d4, d5] => { results := [.lit (.bool false)], args := [d1, d2, d3, d4, d5] }
  | _ => none }
def GcmTagWrongFalsely : Prop := gcmTagRow.holds Try.pinned (OpenSpec.ofChange gcmTagWrong)

/- THE SECOND FORM. 'bulk': how many values and letters a reading holds, each counted each time it is reached (what is shared counts as often as it is met; a slice's spare places count too). A statement '..UptoSaid' is the law's where the arguments, and the package variables that the reading takes, are together of bulk at most 1048576: NARROWER than '..Said'. Prove '..Said' where nothing that the law and all that it calls make is longer than what came in: it says more and counts as full. Else prove '..UptoSaid'. A law counts once. -/
mutual
def uptoBulk {H : Type} : DataW H → Nat
  | .lit (.string bytes) => bytes.length + 1
  | .lit _ => 1
  | .nil => 1
  | .ptr d => uptoBulk d + 1
  | .slice elems spare => uptoBulkAll elems + uptoBulkAll spare + 1
  | .agg parts => uptoBulkAll parts + 1
  | .iface _ d => uptoBulk d + 1
  | .map entries => uptoBulkEntries entries + 1
  | .held _ => 1
def uptoBulkAll {H : Type} : List (DataW H) → Nat
  | [] => 0
  | d :: r => uptoBulk d + uptoBulkAll r
def uptoBulkEntries {H : Type} : List (Lit × DataW H) → Nat
  | [] => 0
  | x :: r => uptoBulkEntry x + uptoBulkEntries r
def uptoBulkEntry {H : Type} : Lit × DataW H → Nat
  | (.string bytes, d) => bytes.length + uptoBulk d + 1
  | (_, d) => uptoBulk d + 1
 end
def uptoSmall : (H : Type) → List (DataW H) → Bool := fun _ ds => decide (uptoBulkAll ds ≤ 1048576)
def OpenSpec.upto (s : _root_.Go.ChangeSpec) : _root_.Go.OpenSpec := { _root_.Go.OpenSpec.ofChange s with cond := some uptoSmall }

/-- 'deedboxlaw09.DiskDoes', WHERE WHAT IT READS IS OF BULK AT MOST 1048576: true; the input reads as it did. -/
def diskDoesUptoRow : OpenClaim := { program := "ytcchamnagcpaiaa", sum := "a4cd7b3db38862ed98e645db26a8529eeb25c8591e68e0b61b760e510b2949e9", func := "deedbox/deedboxlaw09.DiskDoes", spec := "diskDoes", unfollowed := true, recurses := true, apart := false, narrowed := true }
def DiskDoesUptoSaid : Prop := diskDoesUptoRow.holds Try.pinned (OpenSpec.upto diskDoesSpec)

/-- 'deedboxlaw14.AnchorPuts', WHERE WHAT IT READS IS OF BULK AT MOST 1048576: true; the input reads as it did. -/
def anchorPutsUptoRow : OpenClaim := { program := "ytcchamnagcpaiaa", sum := "a4cd7b3db38862ed98e645db26a8529eeb25c8591e68e0b61b760e510b2949e9", func := "deedbox/deedboxlaw14.AnchorPuts", spec := "anchorPuts", unfollowed := true, recurses := true, apart := false, narrowed := true }
def AnchorPutsUptoSaid : Prop := anchorPutsUptoRow.holds Try.pinned (OpenSpec.upto anchorPutsSpec)

/-- 'deedboxlaw14.AnchorDoes', WHERE WHAT IT READS IS OF BULK AT MOST 1048576: true; the input reads as it did. -/
def anchorDoesUptoRow : OpenClaim := { program := "ytcchamnagcpaiaa", sum := "a4cd7b3db38862ed98e645db26a8529eeb25c8591e68e0b61b760e510b2949e9", func := "deedbox/deedboxlaw14.AnchorDoes", spec := "anchorDoes", unfollowed := true, recurses := true, apart := false, narrowed := true }
def AnchorDoesUptoSaid : Prop := anchorDoesUptoRow.holds Try.pinned (OpenSpec.upto anchorDoesSpec)

/-- 'deedboxlaw14.AnchorKeeps', WHERE WHAT IT READS IS OF BULK AT MOST 1048576: true; the input reads as it did. -/
def anchorKeepsUptoRow : OpenClaim := { program := "ytcchamnagcpaiaa", sum := "a4cd7b3db38862ed98e645db26a8529eeb25c8591e68e0b61b760e510b2949e9", func := "deedbox/deedboxlaw14.AnchorKeeps", spec := "anchorKeeps", unfollowed := true, recurses := true, apart := false, narrowed := true }
def AnchorKeepsUptoSaid : Prop := anchorKeepsUptoRow.holds Try.pinned (OpenSpec.upto anchorKeepsSpec)

/-- 'deedboxlaw14.AnchorRises', WHERE WHAT IT READS IS OF BULK AT MOST 1048576: true; the input reads as it did. -/
def anchorRisesUptoRow : OpenClaim := { program := "ytcchamnagcpaiaa", sum := "a4cd7b3db38862ed98e645db26a8529eeb25c8591e68e0b61b760e510b2949e9", func := "deedbox/deedboxlaw14.AnchorRises", spec := "anchorRises", unfollowed := true, recurses := true, apart := false, narrowed := true }
def AnchorRisesUptoSaid : Prop := anchorRisesUptoRow.holds Try.pinned (OpenSpec.upto anchorRisesSpec)

/-- 'deedboxlaw06.GcmSeals', WHERE WHAT IT READS IS OF BULK AT MOST 1048576: true; the input reads as it did. -/
def gcmSealsUptoRow : OpenClaim := { program := "ytcchamnagcpaiaa", sum := "a4cd7b3db38862ed98e645db26a8529eeb25c8591e68e0b61b760e510b2949e9", func := "deedbox/deedboxlaw06.GcmSeals", spec := "gcmSeals", unfollowed := true, recurses := true, apart := false, narrowed := true }
def GcmSealsUptoSaid : Prop := gcmSealsUptoRow.holds Try.pinned (OpenSpec.upto gcmSealsSpec)

/-- 'deedboxlaw06.GcmOpens', WHERE WHAT IT READS IS OF BULK AT MOST 1048576: true; the input reads as it did. -/
def gcmOpensUptoRow : OpenClaim := { program := "ytcchamnagcpaiaa", sum := "a4cd7b3db38862ed98e645db26a8529eeb25c8591e68e0b61b760e510b2949e9", func := "deedbox/deedboxlaw06.GcmOpens", spec := "gcmOpens", unfollowed := true, recurses := true, apart := false, narrowed := true }
def GcmOpensUptoSaid : Prop := gcmOpensUptoRow.holds Try.pinned (OpenSpec.upto gcmOpensSpec)

/-- 'deedboxlaw06.GcmBack', WHERE WHAT IT READS IS OF BULK AT MOST 1048576: true; the input reads as it did. -/
def gcmBackUptoRow : OpenClaim := { program := "ytcchamnagcpaiaa", sum := "a4cd7b3db38862ed98e645db26a8529eeb25c8591e68e0b61b760e510b2949e9", func := "deedbox/deedboxlaw06.GcmBack", spec := "gcmBack", unfollowed := true, recurses := true, apart := false, narrowed := true }
def GcmBackUptoSaid : Prop := gcmBackUptoRow.holds Try.pinned (OpenSpec.upto gcmBackSpec)

/-- 'deedboxlaw06.GcmTag', WHERE WHAT IT READS IS OF BULK AT MOST 1048576: true; the input reads as it did. -/
def gcmTagUptoRow : OpenClaim := { program := "ytcchamnagcpaiaa", sum := "a4cd7b3db38862ed98e645db26a8529eeb25c8591e68e0b61b760e510b2949e9", func := "deedbox/deedboxlaw06.GcmTag", spec := "gcmTag", unfollowed := true, recurses := true, apart := false, narrowed := true }
def GcmTagUptoSaid : Prop := gcmTagUptoRow.holds Try.pinned (OpenSpec.upto gcmTagSpec)

end Rows
end Go.Proofs.Ytcchamnagcpaiaa
