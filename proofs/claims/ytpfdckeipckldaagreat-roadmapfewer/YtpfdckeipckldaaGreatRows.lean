/-
  No cell of these rows narrows 'for every input' (looked for: loops, veiled, ifaces, maps, wideKeys, modest, calm, conditions, laid).
  DERIVED. THE GIVEN ROWS OF THIS SEAT. 9 by the template 'for every input the law returns true; each argument reads behind the call as it read before'; 0 by the template 'total and deterministic' (their statements: YtpfdckeipckldaaGreatTotals.lean).
  GIVEN WITH THE SEED: the statements are not yours to turn. If you find one false, say at which input.
  Laid BY PROGRAM, IN A SANDBOX (cutbox-rows.mjs): the forced cells as the released guide's own fill.sh prints them over the translation 1b59c2e3eeed9e1f… (all of the seat's roots in one cut). By AI agents, Wed Nov 11 2026. No macro, syntax, notation, axiom, sorry.
-/
import Derived.Test.YtpfdckeipckldaaGreatChecked
import GoSem.Claim
import GoSem.ClaimJoined
import GoSem.ClaimMapViews
import Derived.JoinedTies
import Derived.KernelRfl
namespace Go.Proofs.YtpfdckeipckldaaGreat
/- THE CELL 'sum', in the pinned program and in every row, IS THE sha256 OF THE DUMP (.gsa) THAT YtpfdckeipckldaaGreatProg.lean LOADS. Nothing in Lean hashes anything: it is a label: what it is worth is what the hold of that sum in a sandbox is worth. -/
noncomputable def Tryz.pinned : Pinned := { name := "ytpfdckeipckldaagreat", sum := "1b59c2e3eeed9e1ffb727f75fed5811abf2001617e075d6629219f1baf109902", checked := Tryz.checked }
namespace Rows
def none {H : Type} : Left H := { results := [], args := [] }

/-- 'narrowslaw41.RoadmapBuild': WHATEVER THE INPUT: true; the input reads as it did. -/
def roadmapBuildSpec : ChangeSpec := { name := "roadmapBuild", fn := fun _ => fun
  | [d1, d2, d3] => { results := [.lit (.bool true)], args := [d1, d2, d3] }
  | _ => none }
def roadmapBuildRow : OpenClaim := { program := "ytpfdckeipckldaagreat", sum := "1b59c2e3eeed9e1ffb727f75fed5811abf2001617e075d6629219f1baf109902", func := "narrows/narrowslaw41.RoadmapBuild", spec := "roadmapBuild", unfollowed := true, recurses := true, named := ["math/bits.overflowError"], apart := false }
def RoadmapBuildSaid : Prop := roadmapBuildRow.holds Tryz.pinned (OpenSpec.ofChange roadmapBuildSpec)

/-- ITS FALSE NEIGHBOUR: 'it returns false'. Refute it at one input. -/
def roadmapBuildWrong : ChangeSpec := { name := "roadmapBuild", fn := fun _ => fun
  | [d1, d2, d3] => { results := [.lit (.bool false)], args := [d1, d2, d3] }
  | _ => none }
def RoadmapBuildWrongFalsely : Prop := roadmapBuildRow.holds Tryz.pinned (OpenSpec.ofChange roadmapBuildWrong)

/-- 'narrowslaw41.RoadmapTight': WHATEVER THE INPUT: true; the input reads as it did. -/
def roadmapTightSpec : ChangeSpec := { name := "roadmapTight", fn := fun _ => fun
  | [d1, d2, d3] => { results := [.lit (.bool true)], args := [d1, d2, d3] }
  | _ => none }
def roadmapTightRow : OpenClaim := { program := "ytpfdckeipckldaagreat", sum := "1b59c2e3eeed9e1ffb727f75fed5811abf2001617e075d6629219f1baf109902", func := "narrows/narrowslaw41.RoadmapTight", spec := "roadmapTight", unfollowed := true, recurses := true, named := ["math/bits.overflowError"], apart := false }
def RoadmapTightSaid : Prop := roadmapTightRow.holds Tryz.pinned (OpenSpec.ofChange roadmapTightSpec)

/-- ITS FALSE NEIGHBOUR: 'it returns false'. Refute it at one input. -/
def roadmapTightWrong : ChangeSpec := { name := "roadmapTight", fn := fun _ => fun
  | [d1, d2, d3] => { results := [.lit (.bool false)], args := [d1, d2, d3] }
  | _ => none }
def RoadmapTightWrongFalsely : Prop := roadmapTightRow.holds Tryz.pinned (OpenSpec.ofChange roadmapTightWrong)

/-- 'narrowslaw41.RoadmapSees': WHATEVER THE INPUT: true; the input reads as it did. -/
def roadmapSeesSpec : ChangeSpec := { name := "roadmapSees", fn := fun _ => fun
  | [d1, d2, d3] => { results := [.lit (.bool true)], args := [d1, d2, d3] }
  | _ => none }
def roadmapSeesRow : OpenClaim := { program := "ytpfdckeipckldaagreat", sum := "1b59c2e3eeed9e1ffb727f75fed5811abf2001617e075d6629219f1baf109902", func := "narrows/narrowslaw41.RoadmapSees", spec := "roadmapSees", unfollowed := true, recurses := true, named := ["math/bits.overflowError"], apart := false }
def RoadmapSeesSaid : Prop := roadmapSeesRow.holds Tryz.pinned (OpenSpec.ofChange roadmapSeesSpec)

/-- ITS FALSE NEIGHBOUR: 'it returns false'. Refute it at one input. -/
def roadmapSeesWrong : ChangeSpec := { name := "roadmapSees", fn := fun _ => fun
  | [d1, d2, d3] => { results := [.lit (.bool false)], args := [d1, d2, d3] }
  | _ => none }
def RoadmapSeesWrongFalsely : Prop := roadmapSeesRow.holds Tryz.pinned (OpenSpec.ofChange roadmapSeesWrong)

/-- 'narrowslaw41.RoadmapSymmetry': WHATEVER THE INPUT: true; the input reads as it did. -/
def roadmapSymmetrySpec : ChangeSpec := { name := "roadmapSymmetry", fn := fun _ => fun
  | [d1, d2, d3, d4] => { results := [.lit (.bool true)], args := [d1, d2, d3, d4] }
  | _ => none }
def roadmapSymmetryRow : OpenClaim := { program := "ytpfdckeipckldaagreat", sum := "1b59c2e3eeed9e1ffb727f75fed5811abf2001617e075d6629219f1baf109902", func := "narrows/narrowslaw41.RoadmapSymmetry", spec := "roadmapSymmetry", unfollowed := true, recurses := true, named := ["math/bits.overflowError"], apart := false }
def RoadmapSymmetrySaid : Prop := roadmapSymmetryRow.holds Tryz.pinned (OpenSpec.ofChange roadmapSymmetrySpec)

/-- ITS FALSE NEIGHBOUR: 'it returns false'. Refute it at one input. -/
def roadmapSymmetryWrong : ChangeSpec := { name := "roadmapSymmetry", fn := fun _ => fun
  | [d1, d2, d3, d4] => { results := [.lit (.bool false)], args := [d1, d2, d3, d4] }
  | _ => none }
def RoadmapSymmetryWrongFalsely : Prop := roadmapSymmetryRow.holds Tryz.pinned (OpenSpec.ofChange roadmapSymmetryWrong)

/-- 'narrowslaw41.RoadmapFewer': WHATEVER THE INPUT: true; the input reads as it did. -/
def roadmapFewerSpec : ChangeSpec := { name := "roadmapFewer", fn := fun _ => fun
  | [d1, d2, d3, d4] => { results := [.lit (.bool true)], args := [d1, d2, d3, d4] }
  | _ => none }
def roadmapFewerRow : OpenClaim := { program := "ytpfdckeipckldaagreat", sum := "1b59c2e3eeed9e1ffb727f75fed5811abf2001617e075d6629219f1baf109902", func := "narrows/narrowslaw41.RoadmapFewer", spec := "roadmapFewer", unfollowed := true, recurses := true, named := ["math/bits.overflowError"], apart := false }
def RoadmapFewerSaid : Prop := roadmapFewerRow.holds Tryz.pinned (OpenSpec.ofChange roadmapFewerSpec)

/-- ITS FALSE NEIGHBOUR: 'it returns false'. Refute it at one input. -/
def roadmapFewerWrong : ChangeSpec := { name := "roadmapFewer", fn := fun _ => fun
  | [d1, d2, d3, d4] => { results := [.lit (.bool false)], args := [d1, d2, d3, d4] }
  | _ => none }
def RoadmapFewerWrongFalsely : Prop := roadmapFewerRow.holds Tryz.pinned (OpenSpec.ofChange roadmapFewerWrong)

/-- 'narrowslaw41.RoadmapConnects': WHATEVER THE INPUT: true; the input reads as it did. -/
def roadmapConnectsSpec : ChangeSpec := { name := "roadmapConnects", fn := fun _ => fun
  | [d1, d2, d3, d4] => { results := [.lit (.bool true)], args := [d1, d2, d3, d4] }
  | _ => none }
def roadmapConnectsRow : OpenClaim := { program := "ytpfdckeipckldaagreat", sum := "1b59c2e3eeed9e1ffb727f75fed5811abf2001617e075d6629219f1baf109902", func := "narrows/narrowslaw41.RoadmapConnects", spec := "roadmapConnects", unfollowed := true, recurses := true, named := ["math/bits.overflowError"], apart := false }
def RoadmapConnectsSaid : Prop := roadmapConnectsRow.holds Tryz.pinned (OpenSpec.ofChange roadmapConnectsSpec)

/-- ITS FALSE NEIGHBOUR: 'it returns false'. Refute it at one input. -/
def roadmapConnectsWrong : ChangeSpec := { name := "roadmapConnects", fn := fun _ => fun
  | [d1, d2, d3, d4] => { results := [.lit (.bool false)], args := [d1, d2, d3, d4] }
  | _ => none }
def RoadmapConnectsWrongFalsely : Prop := roadmapConnectsRow.holds Tryz.pinned (OpenSpec.ofChange roadmapConnectsWrong)

/-- 'narrowslaw41.RoadmapCorners': WHATEVER THE INPUT: true; the input reads as it did. -/
def roadmapCornersSpec : ChangeSpec := { name := "roadmapCorners", fn := fun _ => fun
  | [d] => { results := [.lit (.bool true)], args := [d] }
  | _ => none }
def roadmapCornersRow : OpenClaim := { program := "ytpfdckeipckldaagreat", sum := "1b59c2e3eeed9e1ffb727f75fed5811abf2001617e075d6629219f1baf109902", func := "narrows/narrowslaw41.RoadmapCorners", spec := "roadmapCorners", unfollowed := true, recurses := true, named := ["math/bits.overflowError"], apart := false }
def RoadmapCornersSaid : Prop := roadmapCornersRow.holds Tryz.pinned (OpenSpec.ofChange roadmapCornersSpec)

/-- ITS FALSE NEIGHBOUR: 'it returns false'. Refute it at one input. -/
def roadmapCornersWrong : ChangeSpec := { name := "roadmapCorners", fn := fun _ => fun
  | [d] => { results := [.lit (.bool false)], args := [d] }
  | _ => none }
def RoadmapCornersWrongFalsely : Prop := roadmapCornersRow.holds Tryz.pinned (OpenSpec.ofChange roadmapCornersWrong)

/-- 'narrowslaw41.RoadmapReads': WHATEVER THE INPUT: true; the input reads as it did. -/
def roadmapReadsSpec : ChangeSpec := { name := "roadmapReads", fn := fun _ => fun
  | [d1, d2, d3, d4] => { results := [.lit (.bool true)], args := [d1, d2, d3, d4] }
  | _ => none }
def roadmapReadsRow : OpenClaim := { program := "ytpfdckeipckldaagreat", sum := "1b59c2e3eeed9e1ffb727f75fed5811abf2001617e075d6629219f1baf109902", func := "narrows/narrowslaw41.RoadmapReads", spec := "roadmapReads", unfollowed := true, recurses := true, named := ["math/bits.overflowError"], apart := false }
def RoadmapReadsSaid : Prop := roadmapReadsRow.holds Tryz.pinned (OpenSpec.ofChange roadmapReadsSpec)

/-- ITS FALSE NEIGHBOUR: 'it returns false'. Refute it at one input. -/
def roadmapReadsWrong : ChangeSpec := { name := "roadmapReads", fn := fun _ => fun
  | [d1, d2, d3, d4] => { results := [.lit (.bool false)], args := [d1, d2, d3, d4] }
  | _ => none }
def RoadmapReadsWrongFalsely : Prop := roadmapReadsRow.holds Tryz.pinned (OpenSpec.ofChange roadmapReadsWrong)

/-- 'narrowslaw41.RoadmapLinks': WHATEVER THE INPUT: true; the input reads as it did. -/
def roadmapLinksSpec : ChangeSpec := { name := "roadmapLinks", fn := fun _ => fun
  | [d1, d2, d3, d4, d5] => { results := [.lit (.bool true)], args := [d1, d2, d3, d4, d5] }
  | _ => none }
def roadmapLinksRow : OpenClaim := { program := "ytpfdckeipckldaagreat", sum := "1b59c2e3eeed9e1ffb727f75fed5811abf2001617e075d6629219f1baf109902", func := "narrows/narrowslaw41.RoadmapLinks", spec := "roadmapLinks", unfollowed := true, recurses := true, named := ["math/bits.overflowError"], apart := false }
def RoadmapLinksSaid : Prop := roadmapLinksRow.holds Tryz.pinned (OpenSpec.ofChange roadmapLinksSpec)

/-- ITS FALSE NEIGHBOUR: 'it returns false'. Refute it at one input. -/
def roadmapLinksWrong : ChangeSpec := { name := "roadmapLinks", fn := fun _ => fun
  | [d1, d2, d3, d4, d5] => { results := [.lit (.bool false)], args := [d1, d2, d3, d4, d5] }
  | _ => none }
def RoadmapLinksWrongFalsely : Prop := roadmapLinksRow.holds Tryz.pinned (OpenSpec.ofChange roadmapLinksWrong)

/- THE SECOND FORM. 'bulk': how many values and letters a reading holds, each counted each time it is reached (what is shared counts as often as it is met; a slice's spare places count too). A statement '..UptoSaid' is the law's where the arguments, and the package variables that the reading takes, are together of bulk at most 1048576: NARROWER than '..Said'. Prove '..Said' where nothing that the law and all that it calls make is longer than what came in: it says more and counts as full. Else prove '..UptoSaid'. A law counts once. -/
mutual
def uptoBulk {H : Type} : DataW H → Nat
  | .lit (.string bytes) => bytes.length + 1
  | .lit _ => 1
  | .nil => 1
  | .ptr d => uptoBulk d + 1
  | .slice elems spare => uptoBulkAll elems + uptoBulkAll spare + 1
  | .agg parts => uptoBulkAll parts + 1
  | .iface _ d => uptoBulk d + 1
  | .map entries => uptoBulkEntries entries + 1
  | .held _ => 1
def uptoBulkAll {H : Type} : List (DataW H) → Nat
  | [] => 0
  | d :: r => uptoBulk d + uptoBulkAll r
def uptoBulkEntries {H : Type} : List (Lit × DataW H) → Nat
  | [] => 0
  | x :: r => uptoBulkEntry x + uptoBulkEntries r
def uptoBulkEntry {H : Type} : Lit × DataW H → Nat
  | (.string bytes, d) => bytes.length + uptoBulk d + 1
  | (_, d) => uptoBulk d + 1
 end
def uptoSmall : (H : Type) → List (DataW H) → Bool := fun _ ds => decide (uptoBulkAll ds ≤ 1048576)
def OpenSpec.upto (s : _root_.Go.ChangeSpec) : _root_.Go.OpenSpec := { _root_.Go.OpenSpec.ofChange s with cond := some uptoSmall }

/-- 'narrowslaw41.RoadmapBuild', WHERE WHAT IT READS IS OF BULK AT MOST 1048576: true; the input reads as it did. -/
def roadmapBuildUptoRow : OpenClaim := { program := "ytpfdckeipckldaagreat", sum := "1b59c2e3eeed9e1ffb727f75fed5811abf2001617e075d6629219f1baf109902", func := "narrows/narrowslaw41.RoadmapBuild", spec := "roadmapBuild", unfollowed := true, recurses := true, named := ["math/bits.overflowError"], apart := false, narrowed := true }
def RoadmapBuildUptoSaid : Prop := roadmapBuildUptoRow.holds Tryz.pinned (OpenSpec.upto roadmapBuildSpec)

/-- 'narrowslaw41.RoadmapTight', WHERE WHAT IT READS IS OF BULK AT MOST 1048576: true; the input reads as it did. -/
def roadmapTightUptoRow : OpenClaim := { program := "ytpfdckeipckldaagreat", sum := "1b59c2e3eeed9e1ffb727f75fed5811abf2001617e075d6629219f1baf109902", func := "narrows/narrowslaw41.RoadmapTight", spec := "roadmapTight", unfollowed := true, recurses := true, named := ["math/bits.overflowError"], apart := false, narrowed := true }
def RoadmapTightUptoSaid : Prop := roadmapTightUptoRow.holds Tryz.pinned (OpenSpec.upto roadmapTightSpec)

/-- 'narrowslaw41.RoadmapSees', WHERE WHAT IT READS IS OF BULK AT MOST 1048576: true; the input reads as it did. -/
def roadmapSeesUptoRow : OpenClaim := { program := "ytpfdckeipckldaagreat", sum := "1b59c2e3eeed9e1ffb727f75fed5811abf2001617e075d6629219f1baf109902", func := "narrows/narrowslaw41.RoadmapSees", spec := "roadmapSees", unfollowed := true, recurses := true, named := ["math/bits.overflowError"], apart := false, narrowed := true }
def RoadmapSeesUptoSaid : Prop := roadmapSeesUptoRow.holds Tryz.pinned (OpenSpec.upto roadmapSeesSpec)

/-- 'narrowslaw41.RoadmapSymmetry', WHERE WHAT IT READS IS OF BULK AT MOST 1048576: true; the input reads as it did. -/
def roadmapSymmetryUptoRow : OpenClaim := { program := "ytpfdckeipckldaagreat", sum := "1b59c2e3eeed9e1ffb727f75fed5811abf2001617e075d6629219f1baf109902", func := "narrows/narrowslaw41.RoadmapSymmetry", spec := "roadmapSymmetry", unfollowed := true, recurses := true, named := ["math/bits.overflowError"], apart := false, narrowed := true }
def RoadmapSymmetryUptoSaid : Prop := roadmapSymmetryUptoRow.holds Tryz.pinned (OpenSpec.upto roadmapSymmetrySpec)

/-- 'narrowslaw41.RoadmapFewer', WHERE WHAT IT READS IS OF BULK AT MOST 1048576: true; the input reads as it did. -/
def roadmapFewerUptoRow : OpenClaim := { program := "ytpfdckeipckldaagreat", sum := "1b59c2e3eeed9e1ffb727f75fed5811abf2001617e075d6629219f1baf109902", func := "narrows/narrowslaw41.RoadmapFewer", spec := "roadmapFewer", unfollowed := true, recurses := true, named := ["math/bits.overflowError"], apart := false, narrowed := true }
def RoadmapFewerUptoSaid : Prop := roadmapFewerUptoRow.holds Tryz.pinned (OpenSpec.upto roadmapFewerSpec)

/-- 'narrowslaw41.RoadmapConnects', WHERE WHAT IT READS IS OF BULK AT MOST 1048576: true; the input reads as it did. -/
def roadmapConnectsUptoRow : OpenClaim := { program := "ytpfdckeipckldaagreat", sum := "1b59c2e3eeed9e1ffb727f75fed5811abf2001617e075d6629219f1baf109902", func := "narrows/narrowslaw41.RoadmapConnects", spec := "roadmapConnects", unfollowed := true, recurses := true, named := ["math/bits.overflowError"], apart := false, narrowed := true }
def RoadmapConnectsUptoSaid : Prop := roadmapConnectsUptoRow.holds Tryz.pinned (OpenSpec.upto roadmapConnectsSpec)

/-- 'narrowslaw41.RoadmapCorners', WHERE WHAT IT READS IS OF BULK AT MOST 1048576: true; the input reads as it did. -/
def roadmapCornersUptoRow : OpenClaim := { program := "ytpfdckeipckldaagreat", sum := "1b59c2e3eeed9e1ffb727f75fed5811abf2001617e075d6629219f1baf109902", func := "narrows/narrowslaw41.RoadmapCorners", spec := "roadmapCorners", unfollowed := true, recurses := true, named := ["math/bits.overflowError"], apart := false, narrowed := true }
def RoadmapCornersUptoSaid : Prop := roadmapCornersUptoRow.holds Tryz.pinned (OpenSpec.upto roadmapCornersSpec)

/-- 'narrowslaw41.RoadmapReads', WHERE WHAT IT READS IS OF BULK AT MOST 1048576: true; the input reads as it did. -/
def roadmapReadsUptoRow : OpenClaim := { program := "ytpfdckeipckldaagreat", sum := "1b59c2e3eeed9e1ffb727f75fed5811abf2001617e075d6629219f1baf109902", func := "narrows/narrowslaw41.RoadmapReads", spec := "roadmapReads", unfollowed := true, recurses := true, named := ["math/bits.overflowError"], apart := false, narrowed := true }
def RoadmapReadsUptoSaid : Prop := roadmapReadsUptoRow.holds Tryz.pinned (OpenSpec.upto roadmapReadsSpec)

/-- 'narrowslaw41.RoadmapLinks', WHERE WHAT IT READS IS OF BULK AT MOST 1048576: true; the input reads as it did. -/
def roadmapLinksUptoRow : OpenClaim := { program := "ytpfdckeipckldaagreat", sum := "1b59c2e3eeed9e1ffb727f75fed5811abf2001617e075d6629219f1baf109902", func := "narrows/narrowslaw41.RoadmapLinks", spec := "roadmapLinks", unfollowed := true, recurses := true, named := ["math/bits.overflowError"], apart := false, narrowed := true }
def RoadmapLinksUptoSaid : Prop := roadmapLinksUptoRow.holds Tryz.pinned (OpenSpec.upto roadmapLinksSpec)

end Rows
end Go.Proofs.YtpfdckeipckldaaGreat
