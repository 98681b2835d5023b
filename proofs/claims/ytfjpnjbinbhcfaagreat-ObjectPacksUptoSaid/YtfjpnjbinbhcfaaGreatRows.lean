/-
  No cell of these rows narrows 'for every input' (looked for: loops, veiled, ifaces, maps, wideKeys, modest, calm, conditions, laid).
  DERIVED. THE GIVEN ROWS OF THIS SEAT. 6 by the template 'for every input the law returns true; each argument reads behind the call as it read before'; 0 by the template 'total and deterministic' (their statements: YtfjpnjbinbhcfaaGreatTotals.lean).
  GIVEN WITH THE SEED: the statements are not yours to turn. If you find one false, say at which input.
  Laid BY PROGRAM, IN A SANDBOX (cutbox-rows.mjs): the forced cells as the released guide's own fill.sh prints them over the translation 724b67547a57f9a1… (all of the seat's roots in one cut). By AI agents, Wed Nov 11 2026. No macro, syntax, notation, axiom, sorry.
-/
import Derived.Test.YtfjpnjbinbhcfaaGreatChecked
import GoSem.Claim
import GoSem.ClaimJoined
import GoSem.ClaimMapViews
import Derived.JoinedTies
import Derived.KernelRfl
namespace Go.Proofs.YtfjpnjbinbhcfaaGreat
/- THE CELL 'sum', in the pinned program and in every row, IS THE sha256 OF THE DUMP (.gsa) THAT YtfjpnjbinbhcfaaGreatProg.lean LOADS. Nothing in Lean hashes anything: it is a label: what it is worth is what the hold of that sum in a sandbox is worth. -/
noncomputable def Tryz.pinned : Pinned := { name := "ytfjpnjbinbhcfaagreat", sum := "724b67547a57f9a162217d0a11fdd21a318c6b449fc3bd5a3560bb36e9096074", checked := Tryz.checked }
namespace Rows
def none {H : Type} : Left H := { results := [], args := [] }

/-- 'foundrylaw15.ObjectRights': WHATEVER THE INPUT: true; the input reads as it did. -/
def objectRightsSpec : ChangeSpec := { name := "objectRights", fn := fun _ => fun
  | [d] => { results := [.lit (.bool true)], args := [d] }
  | _ => none }
def objectRightsRow : OpenClaim := { program := "ytfjpnjbinbhcfaagreat", sum := "724b67547a57f9a162217d0a11fdd21a318c6b449fc3bd5a3560bb36e9096074", func := "foundry/foundrylaw15.ObjectRights", spec := "objectRights", unfollowed := true, recurses := true, apart := false }
def ObjectRightsSaid : Prop := objectRightsRow.holds Tryz.pinned (OpenSpec.ofChange objectRightsSpec)

/-- ITS FALSE NEIGHBOUR: 'it returns false'. Refute it at one input. -/
def objectRightsWrong : ChangeSpec := { name := "objectRights", fn := fun _ => fun
  | [d] => { results := [.lit (.bool false)], args := [d] }
  | _ => none }
def ObjectRightsWrongFalsely : Prop := objectRightsRow.holds Tryz.pinned (OpenSpec.ofChange objectRightsWrong)

/-- 'foundrylaw15.ObjectPacks': WHATEVER THE INPUT: true; the input reads as it did. -/
def objectPacksSpec : ChangeSpec := { name := "objectPacks", fn := fun _ => fun
  | [d] => { results := [.lit (.bool true)], args := [d] }
  | _ => none }
def objectPacksRow : OpenClaim := { program := "ytfjpnjbinbhcfaagreat", sum := "724b67547a57f9a162217d0a11fdd21a318c6b449fc3bd5a3560bb36e9096074", func := "foundry/foundrylaw15.ObjectPacks", spec := "objectPacks", unfollowed := true, recurses := true, apart := false }
def ObjectPacksSaid : Prop := objectPacksRow.holds Tryz.pinned (OpenSpec.ofChange objectPacksSpec)

/-- ITS FALSE NEIGHBOUR: 'it returns false'. Refute it at one input. -/
def objectPacksWrong : ChangeSpec := { name := "objectPacks", fn := fun _ => fun
  | [d] => { results := [.lit (.bool false)], args := [d] }
  | _ => none }
def ObjectPacksWrongFalsely : Prop := objectPacksRow.holds Tryz.pinned (OpenSpec.ofChange objectPacksWrong)

/-- 'foundrylaw15.ObjectReads': WHATEVER THE INPUT: true; the input reads as it did. -/
def objectReadsSpec : ChangeSpec := { name := "objectReads", fn := fun _ => fun
  | [d] => { results := [.lit (.bool true)], args := [d] }
  | _ => none }
def objectReadsRow : OpenClaim := { program := "ytfjpnjbinbhcfaagreat", sum := "724b67547a57f9a162217d0a11fdd21a318c6b449fc3bd5a3560bb36e9096074", func := "foundry/foundrylaw15.ObjectReads", spec := "objectReads", unfollowed := true, recurses := true, apart := false }
def ObjectReadsSaid : Prop := objectReadsRow.holds Tryz.pinned (OpenSpec.ofChange objectReadsSpec)

/-- ITS FALSE NEIGHBOUR: 'it returns false'. Refute it at one input. -/
def objectReadsWrong : ChangeSpec := { name := "objectReads", fn := fun _ => fun
  | [d] => { results := [.lit (.bool false)], args := [d] }
  | _ => none }
def ObjectReadsWrongFalsely : Prop := objectReadsRow.holds Tryz.pinned (OpenSpec.ofChange objectReadsWrong)

/-- 'foundrylaw17.ImageRights': WHATEVER THE INPUT: true; the input reads as it did. -/
def imageRightsSpec : ChangeSpec := { name := "imageRights", fn := fun _ => fun
  | [d] => { results := [.lit (.bool true)], args := [d] }
  | _ => none }
def imageRightsRow : OpenClaim := { program := "ytfjpnjbinbhcfaagreat", sum := "724b67547a57f9a162217d0a11fdd21a318c6b449fc3bd5a3560bb36e9096074", func := "foundry/foundrylaw17.ImageRights", spec := "imageRights", unfollowed := true, recurses := true, apart := false }
def ImageRightsSaid : Prop := imageRightsRow.holds Tryz.pinned (OpenSpec.ofChange imageRightsSpec)

/-- ITS FALSE NEIGHBOUR: 'it returns false'. Refute it at one input. -/
def imageRightsWrong : ChangeSpec := { name := "imageRights", fn := fun _ => fun
  | [d] => { results := [.lit (.bool false)], args := [d] }
  | _ => none }
def ImageRightsWrongFalsely : Prop := imageRightsRow.holds Tryz.pinned (OpenSpec.ofChange imageRightsWrong)

/-- 'foundrylaw17.ImagePacks': WHATEVER THE INPUT: true; the input reads as it did. -/
def imagePacksSpec : ChangeSpec := { name := "imagePacks", fn := fun _ => fun
  | [d] => { results := [.lit (.bool true)], args := [d] }
  | _ => none }
def imagePacksRow : OpenClaim := { program := "ytfjpnjbinbhcfaagreat", sum := "724b67547a57f9a162217d0a11fdd21a318c6b449fc3bd5a3560bb36e9096074", func := "foundry/foundrylaw17.ImagePacks", spec := "imagePacks", unfollowed := true, recurses := true, apart := false }
def ImagePacksSaid : Prop := imagePacksRow.holds Tryz.pinned (OpenSpec.ofChange imagePacksSpec)

/-- ITS FALSE NEIGHBOUR: 'it returns false'. Refute it at one input. -/
def imagePacksWrong : ChangeSpec := { name := "imagePacks", fn := fun _ => fun
  | [d] => { results := [.lit (.bool false)], args := [d] }
  | _ => none }
def ImagePacksWrongFalsely : Prop := imagePacksRow.holds Tryz.pinned (OpenSpec.ofChange imagePacksWrong)

/-- 'foundrylaw17.ImageReads': WHATEVER THE INPUT: true; the input reads as it did. -/
def imageReadsSpec : ChangeSpec := { name := "imageReads", fn := fun _ => fun
  | [d] => { results := [.lit (.bool true)], args := [d] }
  | _ => none }
def imageReadsRow : OpenClaim := { program := "ytfjpnjbinbhcfaagreat", sum := "724b67547a57f9a162217d0a11fdd21a318c6b449fc3bd5a3560bb36e9096074", func := "foundry/foundrylaw17.ImageReads", spec := "imageReads", unfollowed := true, recurses := true, apart := false }
def ImageReadsSaid : Prop := imageReadsRow.holds Tryz.pinned (OpenSpec.ofChange imageReadsSpec)

/-- ITS FALSE NEIGHBOUR: 'it returns false'. Refute it at one input. -/
def imageReadsWrong : ChangeSpec := { name := "imageReads", fn := fun _ => fun
  | [d] => { results := [.lit (.bool false)], args := [d] }
  | _ => none }
def ImageReadsWrongFalsely : Prop := imageReadsRow.holds Tryz.pinned (OpenSpec.ofChange imageReadsWrong)

/- THE SECOND FORM. 'bulk': how many values and letters a reading holds, each counted each time it is reached (what is shared counts as often as it is met; a slice's spare places count too). A statement '..UptoSaid' is the law's where the arguments, and the package variables that the reading takes, are together of bulk at most 1048576: NARROWER than '..Said'. Prove '..Said' where nothing that the law and all that it calls make is longer than what came in: it says more and counts as full. Else prove '..UptoSaid'. A law counts once. -/
mutual
def uptoBulk {H : Type} : DataW H → Nat
  | .lit (.string bytes) => bytes.length + 1
  | .lit _ => 1
  | .nil => 1
  | .ptr d => uptoBulk d + 1
  | .slice elems spare => uptoBulkAll elems + uptoBulkAll spare + 1
  | .agg parts => uptoBulkAll parts + 1
  | .iface _ d => uptoBulk d + 1
  | .map entries => uptoBulkEntries entries + 1
  | .held _ => 1
def uptoBulkAll {H : Type} : List (DataW H) → Nat
  | [] => 0
  | d :: r => uptoBulk d + uptoBulkAll r
def uptoBulkEntries {H : Type} : List (Lit × DataW H) → Nat
  | [] => 0
  | x :: r => uptoBulkEntry x + uptoBulkEntries r
def uptoBulkEntry {H : Type} : Lit × DataW H → Nat
  | (.string bytes, d) => bytes.length + uptoBulk d + 1
  | (_, d) => uptoBulk d + 1
 end
def uptoSmall : (H : Type) → List (DataW H) → Bool := fun _ ds => decide (uptoBulkAll ds ≤ 1048576)
def OpenSpec.upto (s : _root_.Go.ChangeSpec) : _root_.Go.OpenSpec := { _root_.Go.OpenSpec.ofChange s with cond := some uptoSmall }

/-- 'foundrylaw15.ObjectRights', WHERE WHAT IT READS IS OF BULK AT MOST 1048576: true; the input reads as it did. -/
def objectRightsUptoRow : OpenClaim := { program := "ytfjpnjbinbhcfaagreat", sum := "724b67547a57f9a162217d0a11fdd21a318c6b449fc3bd5a3560bb36e9096074", func := "foundry/foundrylaw15.ObjectRights", spec := "objectRights", unfollowed := true, recurses := true, apart := false, narrowed := true }
def ObjectRightsUptoSaid : Prop := objectRightsUptoRow.holds Tryz.pinned (OpenSpec.upto objectRightsSpec)

/-- 'foundrylaw15.ObjectPacks', WHERE WHAT IT READS IS OF BULK AT MOST 1048576: true; the input reads as it did. -/
def objectPacksUptoRow : OpenClaim := { program := "ytfjpnjbinbhcfaagreat", sum := "724b67547a57f9a162217d0a11fdd21a318c6b449fc3bd5a3560bb36e9096074", func := "foundry/foundrylaw15.ObjectPacks", spec := "objectPacks", unfollowed := true, recurses := true, apart := false, narrowed := true }
def ObjectPacksUptoSaid : Prop := objectPacksUptoRow.holds Tryz.pinned (OpenSpec.upto objectPacksSpec)

/-- 'foundrylaw15.ObjectReads', WHERE WHAT IT READS IS OF BULK AT MOST 1048576: true; the input reads as it did. -/
def objectReadsUptoRow : OpenClaim := { program := "ytfjpnjbinbhcfaagreat", sum := "724b67547a57f9a162217d0a11fdd21a318c6b449fc3bd5a3560bb36e9096074", func := "foundry/foundrylaw15.ObjectReads", spec := "objectReads", unfollowed := true, recurses := true, apart := false, narrowed := true }
def ObjectReadsUptoSaid : Prop := objectReadsUptoRow.holds Tryz.pinned (OpenSpec.upto objectReadsSpec)

/-- 'foundrylaw17.ImageRights', WHERE WHAT IT READS IS OF BULK AT MOST 1048576: true; the input reads as it did. -/
def imageRightsUptoRow : OpenClaim := { program := "ytfjpnjbinbhcfaagreat", sum := "724b67547a57f9a162217d0a11fdd21a318c6b449fc3bd5a3560bb36e9096074", func := "foundry/foundrylaw17.ImageRights", spec := "imageRights", unfollowed := true, recurses := true, apart := false, narrowed := true }
def ImageRightsUptoSaid : Prop := imageRightsUptoRow.holds Tryz.pinned (OpenSpec.upto imageRightsSpec)

/-- 'foundrylaw17.ImagePacks', WHERE WHAT IT READS IS OF BULK AT MOST 1048576: true; the input reads as it did. -/
def imagePacksUptoRow : OpenClaim := { program := "ytfjpnjbinbhcfaagreat", sum := "724b67547a57f9a162217d0a11fdd21a318c6b449fc3bd5a3560bb36e9096074", func := "foundry/foundrylaw17.ImagePacks", spec := "imagePacks", unfollowed := true, recurses := true, apart := false, narrowed := true }
def ImagePacksUptoSaid : Prop := imagePacksUptoRow.holds Tryz.pinned (OpenSpec.upto imagePacksSpec)

/-- 'foundrylaw17.ImageReads', WHERE WHAT IT READS IS OF BULK AT MOST 1048576: true; the input reads as it did. -/
def imageReadsUptoRow : OpenClaim := { program := "ytfjpnjbinbhcfaagreat", sum := "724b67547a57f9a162217d0a11fdd21a318c6b449fc3bd5a3560bb36e9096074", func := "foundry/foundrylaw17.ImageReads", spec := "imageReads", unfollowed := true, recurses := true, apart := false, narrowed := true }
def ImageReadsUptoSaid : Prop := imageReadsUptoRow.holds Tryz.pinned (OpenSpec.upto imageReadsSpec)

end Rows
end Go.Proofs.YtfjpnjbinbhcfaaGreat
