/-
  No cell of these rows narrows 'for every input' (looked for: loops, veiled, ifaces, maps, wideKeys, modest, calm, conditions, laid).
  DERIVED. THE GIVEN ROWS OF THIS SEAT. 9 by the template 'for every input the law returns true; each argument reads behind the call as it read before'; 0 by the template 'total and deterministic' (their statements: YteihmbaimbogaaaGreatTotals.lean).
  GIVEN WITH THE SEED: the statements are not yours to turn. If you find one false, say at which input.
  Laid BY PROGRAM, IN A SANDBOX (cutbox-rows.mjs): the forced cells as the released guide's own fill.sh prints them over the translation 0b6049d4cfd955fe… (all of the seat's roots in one cut). By AI agents, Wed Nov 11 2026. No macro, syntax, notation, axiom, sorry.
-/
import Derived.Test.YteihmbaimbogaaaGreatChecked
import GoSem.Claim
import GoSem.ClaimJoined
import GoSem.ClaimMapViews
import Derived.JoinedTies
import Derived.KernelRfl
namespace Go.Proofs.YteihmbaimbogaaaGreat
/- THE CELL 'sum', in the pinned program and in every row, IS THE sha256 OF THE DUMP (.gsa) THAT YteihmbaimbogaaaGreatProg.lean LOADS. Nothing in Lean hashes anything: it is a label: what it is worth is what the hold of that sum in a sandbox is worth. -/
noncomputable def Tryz.pinned : Pinned := { name := "yteihmbaimbogaaagreat", sum := "0b6049d4cfd955fe3329fb943c3ca11030ba7f785c01704c7d04ae2adf9c997e", checked := Tryz.checked }
namespace Rows
def none {H : Type} : Left H := { results := [], args := [] }

/-- 'shuntlaw8.FsFills': WHATEVER THE INPUT: true; the input reads as it did. -/
def fsFillsSpec : ChangeSpec := { name := "fsFills", fn := fun _ => fun
  | [d1, d2, d3] => { results := [.lit (.bool true)], args := [d1, d2, d3] }
  | _ => none }
def fsFillsRow : OpenClaim := { program := "yteihmbaimbogaaagreat", sum := "0b6049d4cfd955fe3329fb943c3ca11030ba7f785c01704c7d04ae2adf9c997e", func := "shunt/shuntlaw8.FsFills", spec := "fsFills", inPlace := ["internal/bytealg.IndexByteString"], unfollowed := true, recurses := true, apart := false }
def FsFillsSaid : Prop := fsFillsRow.holds Tryz.pinned (OpenSpec.ofChange fsFillsSpec)

/-- ITS FALSE NEIGHBOUR: 'it returns false'. Refute it at one input. -/
def fsFillsWrong : ChangeSpec := { name := "fsFills", fn := fun _ => fun
  | [d1, d2, d3] => { results := [.lit (.bool false)], args := [d1, d2, d3] }
  | _ => none }
def FsFillsWrongFalsely : Prop := fsFillsRow.holds Tryz.pinned (OpenSpec.ofChange fsFillsWrong)

/-- 'shuntlaw8.FsWide': WHATEVER THE INPUT: true; the input reads as it did. -/
def fsWideSpec : ChangeSpec := { name := "fsWide", fn := fun _ => fun
  | [d1, d2] => { results := [.lit (.bool true)], args := [d1, d2] }
  | _ => none }
def fsWideRow : OpenClaim := { program := "yteihmbaimbogaaagreat", sum := "0b6049d4cfd955fe3329fb943c3ca11030ba7f785c01704c7d04ae2adf9c997e", func := "shunt/shuntlaw8.FsWide", spec := "fsWide", inPlace := ["internal/bytealg.IndexByteString"], unfollowed := true, recurses := true, apart := false }
def FsWideSaid : Prop := fsWideRow.holds Tryz.pinned (OpenSpec.ofChange fsWideSpec)

/-- ITS FALSE NEIGHBOUR: 'it returns false'. Refute it at one input. -/
def fsWideWrong : ChangeSpec := { name := "fsWide", fn := fun _ => fun
  | [d1, d2] => { results := [.lit (.bool false)], args := [d1, d2] }
  | _ => none }
def FsWideWrongFalsely : Prop := fsWideRow.holds Tryz.pinned (OpenSpec.ofChange fsWideWrong)

/-- 'shuntlaw8.FsHeld': WHATEVER THE INPUT: true; the input reads as it did. -/
def fsHeldSpec : ChangeSpec := { name := "fsHeld", fn := fun _ => fun
  | [d1, d2] => { results := [.lit (.bool true)], args := [d1, d2] }
  | _ => none }
def fsHeldRow : OpenClaim := { program := "yteihmbaimbogaaagreat", sum := "0b6049d4cfd955fe3329fb943c3ca11030ba7f785c01704c7d04ae2adf9c997e", func := "shunt/shuntlaw8.FsHeld", spec := "fsHeld", inPlace := ["internal/bytealg.IndexByteString"], unfollowed := true, recurses := true, apart := false }
def FsHeldSaid : Prop := fsHeldRow.holds Tryz.pinned (OpenSpec.ofChange fsHeldSpec)

/-- ITS FALSE NEIGHBOUR: 'it returns false'. Refute it at one input. -/
def fsHeldWrong : ChangeSpec := { name := "fsHeld", fn := fun _ => fun
  | [d1, d2] => { results := [.lit (.bool false)], args := [d1, d2] }
  | _ => none }
def FsHeldWrongFalsely : Prop := fsHeldRow.holds Tryz.pinned (OpenSpec.ofChange fsHeldWrong)

/-- 'shuntlaw8.FsDead': WHATEVER THE INPUT: true; the input reads as it did. -/
def fsDeadSpec : ChangeSpec := { name := "fsDead", fn := fun _ => fun
  | [d] => { results := [.lit (.bool true)], args := [d] }
  | _ => none }
def fsDeadRow : OpenClaim := { program := "yteihmbaimbogaaagreat", sum := "0b6049d4cfd955fe3329fb943c3ca11030ba7f785c01704c7d04ae2adf9c997e", func := "shunt/shuntlaw8.FsDead", spec := "fsDead", inPlace := ["internal/bytealg.IndexByteString"], unfollowed := true, recurses := true, apart := false }
def FsDeadSaid : Prop := fsDeadRow.holds Tryz.pinned (OpenSpec.ofChange fsDeadSpec)

/-- ITS FALSE NEIGHBOUR: 'it returns false'. Refute it at one input. -/
def fsDeadWrong : ChangeSpec := { name := "fsDead", fn := fun _ => fun
  | [d] => { results := [.lit (.bool false)], args := [d] }
  | _ => none }
def FsDeadWrongFalsely : Prop := fsDeadRow.holds Tryz.pinned (OpenSpec.ofChange fsDeadWrong)

/-- 'shuntlaw8.FsFormat': WHATEVER THE INPUT: true; the input reads as it did. -/
def fsFormatSpec : ChangeSpec := { name := "fsFormat", fn := fun _ => fun
  | [d1, d2] => { results := [.lit (.bool true)], args := [d1, d2] }
  | _ => none }
def fsFormatRow : OpenClaim := { program := "yteihmbaimbogaaagreat", sum := "0b6049d4cfd955fe3329fb943c3ca11030ba7f785c01704c7d04ae2adf9c997e", func := "shunt/shuntlaw8.FsFormat", spec := "fsFormat", inPlace := ["internal/bytealg.IndexByteString"], unfollowed := true, recurses := true, apart := false }
def FsFormatSaid : Prop := fsFormatRow.holds Tryz.pinned (OpenSpec.ofChange fsFormatSpec)

/-- ITS FALSE NEIGHBOUR: 'it returns false'. Refute it at one input. -/
def fsFormatWrong : ChangeSpec := { name := "fsFormat", fn := fun _ => fun
  | [d1, d2] => { results := [.lit (.bool false)], args := [d1, d2] }
  | _ => none }
def FsFormatWrongFalsely : Prop := fsFormatRow.holds Tryz.pinned (OpenSpec.ofChange fsFormatWrong)

/-- 'shuntlaw8.FsInodes': WHATEVER THE INPUT: true; the input reads as it did. -/
def fsInodesSpec : ChangeSpec := { name := "fsInodes", fn := fun _ => fun
  | [d1, d2, d3] => { results := [.lit (.bool true)], args := [d1, d2, d3] }
  | _ => none }
def fsInodesRow : OpenClaim := { program := "yteihmbaimbogaaagreat", sum := "0b6049d4cfd955fe3329fb943c3ca11030ba7f785c01704c7d04ae2adf9c997e", func := "shunt/shuntlaw8.FsInodes", spec := "fsInodes", inPlace := ["internal/bytealg.IndexByteString"], unfollowed := true, recurses := true, apart := false }
def FsInodesSaid : Prop := fsInodesRow.holds Tryz.pinned (OpenSpec.ofChange fsInodesSpec)

/-- ITS FALSE NEIGHBOUR: 'it returns false'. Refute it at one input. -/
def fsInodesWrong : ChangeSpec := { name := "fsInodes", fn := fun _ => fun
  | [d1, d2, d3] => { results := [.lit (.bool false)], args := [d1, d2, d3] }
  | _ => none }
def FsInodesWrongFalsely : Prop := fsInodesRow.holds Tryz.pinned (OpenSpec.ofChange fsInodesWrong)

/-- 'shuntlaw8.FsTwo': WHATEVER THE INPUT: true; the input reads as it did. -/
def fsTwoSpec : ChangeSpec := { name := "fsTwo", fn := fun _ => fun
  | [d1, d2, d3] => { results := [.lit (.bool true)], args := [d1, d2, d3] }
  | _ => none }
def fsTwoRow : OpenClaim := { program := "yteihmbaimbogaaagreat", sum := "0b6049d4cfd955fe3329fb943c3ca11030ba7f785c01704c7d04ae2adf9c997e", func := "shunt/shuntlaw8.FsTwo", spec := "fsTwo", inPlace := ["internal/bytealg.IndexByteString"], unfollowed := true, recurses := true, apart := false }
def FsTwoSaid : Prop := fsTwoRow.holds Tryz.pinned (OpenSpec.ofChange fsTwoSpec)

/-- ITS FALSE NEIGHBOUR: 'it returns false'. Refute it at one input. -/
def fsTwoWrong : ChangeSpec := { name := "fsTwo", fn := fun _ => fun
  | [d1, d2, d3] => { results := [.lit (.bool false)], args := [d1, d2, d3] }
  | _ => none }
def FsTwoWrongFalsely : Prop := fsTwoRow.holds Tryz.pinned (OpenSpec.ofChange fsTwoWrong)

/-- 'shuntlaw8.FsCrashes': WHATEVER THE INPUT: true; the input reads as it did. -/
def fsCrashesSpec : ChangeSpec := { name := "fsCrashes", fn := fun _ => fun
  | [d1, d2, d3, d4] => { results := [.lit (.bool true)], args := [d1, d2, d3, d4] }
  | _ => none }
def fsCrashesRow : OpenClaim := { program := "yteihmbaimbogaaagreat", sum := "0b6049d4cfd955fe3329fb943c3ca11030ba7f785c01704c7d04ae2adf9c997e", func := "shunt/shuntlaw8.FsCrashes", spec := "fsCrashes", inPlace := ["internal/bytealg.IndexByteString"], unfollowed := true, recurses := true, apart := false }
def FsCrashesSaid : Prop := fsCrashesRow.holds Tryz.pinned (OpenSpec.ofChange fsCrashesSpec)

/-- ITS FALSE NEIGHBOUR: 'it returns false'. Refute it at one input. -/
def fsCrashesWrong : ChangeSpec := { name := "fsCrashes", fn := fun _ => fun
  | [d1, d2, d3, d4] => { results := [.lit (.bool false)], args := [d1, d2, d3, d4] }
  | _ => none }
def FsCrashesWrongFalsely : Prop := fsCrashesRow.holds Tryz.pinned (OpenSpec.ofChange fsCrashesWrong)

/-- 'shuntlaw8.FsAtom': WHATEVER THE INPUT: true; the input reads as it did. -/
def fsAtomSpec : ChangeSpec := { name := "fsAtom", fn := fun _ => fun
  | [d1, d2, d3, d4, d5] => { results := [.lit (.bool true)], args := [d1, d2, d3, d4, d5] }
  | _ => none }
def fsAtomRow : OpenClaim := { program := "yteihmbaimbogaaagreat", sum := "0b6049d4cfd955fe3329fb943c3ca11030ba7f785c01704c7d04ae2adf9c997e", func := "shunt/shuntlaw8.FsAtom", spec := "fsAtom", inPlace := ["internal/bytealg.IndexByteString"], unfollowed := true, recurses := true, apart := false }
def FsAtomSaid : Prop := fsAtomRow.holds Tryz.pinned (OpenSpec.ofChange fsAtomSpec)

/-- ITS FALSE NEIGHBOUR: 'it returns false'. Refute it at one input. -/
def fsAtomWrong : ChangeSpec := { name := "fsAtom", fn := fun _ => fun
  | [d1, d2, d3, d4, d5] => { results := [.lit (.bool false)], args := [d1, d2, d3, d4, d5] }
  | _ => none }
def FsAtomWrongFalsely : Prop := fsAtomRow.holds Tryz.pinned (OpenSpec.ofChange fsAtomWrong)

/- THE SECOND FORM. 'bulk': how many values and letters a reading holds, each counted each time it is reached (what is shared counts as often as it is met; a slice's spare places count too). A statement '..UptoSaid' is the law's where the arguments, and the package variables that the reading takes, are together of bulk at most 1048576: NARROWER than '..Said'. Prove '..Said' where nothing that the law and all that it calls make is longer than what came in: it says more and counts as full. Else prove '..UptoSaid'. A law counts once. -/
mutual
def uptoBulk {H : Type} : DataW H → Nat
  | .lit (.string bytes) => bytes.length + 1
  | .lit _ => 1
  | .nil => 1
  | .ptr d => uptoBulk d + 1
  | .slice elems spare => uptoBulkAll elems + uptoBulkAll spare + 1
  | .agg parts => uptoBulkAll parts + 1
  | .iface _ d => uptoBulk d + 1
  | .map entries => uptoBulkEntries entries + 1
  | .held _ => 1
def uptoBulkAll {H : Type} : List (DataW H) → Nat
  | [] => 0
  | d :: r => uptoBulk d + uptoBulkAll r
def uptoBulkEntries {H : Type} : List (Lit × DataW H) → Nat
  | [] => 0
  | x :: r => uptoBulkEntry x + uptoBulkEntries r
def uptoBulkEntry {H : Type} : Lit × DataW H → Nat
  | (.string bytes, d) => bytes.length + uptoBulk d + 1
  | (_, d) => uptoBulk d + 1
 end
def uptoSmall : (H : Type) → List (DataW H) → Bool := fun _ ds => decide (uptoBulkAll ds ≤ 1048576)
def OpenSpec.upto (s : _root_.Go.ChangeSpec) : _root_.Go.OpenSpec := { _root_.Go.OpenSpec.ofChange s with cond := some uptoSmall }

/-- 'shuntlaw8.FsFills', WHERE WHAT IT READS IS OF BULK AT MOST 1048576: true; the input reads as it did. -/
def fsFillsUptoRow : OpenClaim := { program := "yteihmbaimbogaaagreat", sum := "0b6049d4cfd955fe3329fb943c3ca11030ba7f785c01704c7d04ae2adf9c997e", func := "shunt/shuntlaw8.FsFills", spec := "fsFills", inPlace := ["internal/bytealg.IndexByteString"], unfollowed := true, recurses := true, apart := false, narrowed := true }
def FsFillsUptoSaid : Prop := fsFillsUptoRow.holds Tryz.pinned (OpenSpec.upto fsFillsSpec)

/-- 'shuntlaw8.FsWide', WHERE WHAT IT READS IS OF BULK AT MOST 1048576: true; the input reads as it did. -/
def fsWideUptoRow : OpenClaim := { program := "yteihmbaimbogaaagreat", sum := "0b6049d4cfd955fe3329fb943c3ca11030ba7f785c01704c7d04ae2adf9c997e", func := "shunt/shuntlaw8.FsWide", spec := "fsWide", inPlace := ["internal/bytealg.IndexByteString"], unfollowed := true, recurses := true, apart := false, narrowed := true }
def FsWideUptoSaid : Prop := fsWideUptoRow.holds Tryz.pinned (OpenSpec.upto fsWideSpec)

/-- 'shuntlaw8.FsHeld', WHERE WHAT IT READS IS OF BULK AT MOST 1048576: true; the input reads as it did. -/
def fsHeldUptoRow : OpenClaim := { program := "yteihmbaimbogaaagreat", sum := "0b6049d4cfd955fe3329fb943c3ca11030ba7f785c01704c7d04ae2adf9c997e", func := "shunt/shuntlaw8.FsHeld", spec := "fsHeld", inPlace := ["internal/bytealg.IndexByteString"], unfollowed := true, recurses := true, apart := false, narrowed := true }
def FsHeldUptoSaid : Prop := fsHeldUptoRow.holds Tryz.pinned (OpenSpec.upto fsHeldSpec)

/-- 'shuntlaw8.FsDead', WHERE WHAT IT READS IS OF BULK AT MOST 1048576: true; the input reads as it did. -/
def fsDeadUptoRow : OpenClaim := { program := "yteihmbaimbogaaagreat", sum := "0b6049d4cfd955fe3329fb943c3ca11030ba7f785c01704c7d04ae2adf9c997e", func := "shunt/shuntlaw8.FsDead", spec := "fsDead", inPlace := ["internal/bytealg.IndexByteString"], unfollowed := true, recurses := true, apart := false, narrowed := true }
def FsDeadUptoSaid : Prop := fsDeadUptoRow.holds Tryz.pinned (OpenSpec.upto fsDeadSpec)

/-- 'shuntlaw8.FsFormat', WHERE WHAT IT READS IS OF BULK AT MOST 1048576: true; the input reads as it did. -/
def fsFormatUptoRow : OpenClaim := { program := "yteihmbaimbogaaagreat", sum := "0b6049d4cfd955fe3329fb943c3ca11030ba7f785c01704c7d04ae2adf9c997e", func := "shunt/shuntlaw8.FsFormat", spec := "fsFormat", inPlace := ["internal/bytealg.IndexByteString"], unfollowed := true, recurses := true, apart := false, narrowed := true }
def FsFormatUptoSaid : Prop := fsFormatUptoRow.holds Tryz.pinned (OpenSpec.upto fsFormatSpec)

/-- 'shuntlaw8.FsInodes', WHERE WHAT IT READS IS OF BULK AT MOST 1048576: true; the input reads as it did. -/
def fsInodesUptoRow : OpenClaim := { program := "yteihmbaimbogaaagreat", sum := "0b6049d4cfd955fe3329fb943c3ca11030ba7f785c01704c7d04ae2adf9c997e", func := "shunt/shuntlaw8.FsInodes", spec := "fsInodes", inPlace := ["internal/bytealg.IndexByteString"], unfollowed := true, recurses := true, apart := false, narrowed := true }
def FsInodesUptoSaid : Prop := fsInodesUptoRow.holds Tryz.pinned (OpenSpec.upto fsInodesSpec)

/-- 'shuntlaw8.FsTwo', WHERE WHAT IT READS IS OF BULK AT MOST 1048576: true; the input reads as it did. -/
def fsTwoUptoRow : OpenClaim := { program := "yteihmbaimbogaaagreat", sum := "0b6049d4cfd955fe3329fb943c3ca11030ba7f785c01704c7d04ae2adf9c997e", func := "shunt/shuntlaw8.FsTwo", spec := "fsTwo", inPlace := ["internal/bytealg.IndexByteString"], unfollowed := true, recurses := true, apart := false, narrowed := true }
def FsTwoUptoSaid : Prop := fsTwoUptoRow.holds Tryz.pinned (OpenSpec.upto fsTwoSpec)

/-- 'shuntlaw8.FsCrashes', WHERE WHAT IT READS IS OF BULK AT MOST 1048576: true; the input reads as it did. -/
def fsCrashesUptoRow : OpenClaim := { program := "yteihmbaimbogaaagreat", sum := "0b6049d4cfd955fe3329fb943c3ca11030ba7f785c01704c7d04ae2adf9c997e", func := "shunt/shuntlaw8.FsCrashes", spec := "fsCrashes", inPlace := ["internal/bytealg.IndexByteString"], unfollowed := true, recurses := true, apart := false, narrowed := true }
def FsCrashesUptoSaid : Prop := fsCrashesUptoRow.holds Tryz.pinned (OpenSpec.upto fsCrashesSpec)

/-- 'shuntlaw8.FsAtom', WHERE WHAT IT READS IS OF BULK AT MOST 1048576: true; the input reads as it did. -/
def fsAtomUptoRow : OpenClaim := { program := "yteihmbaimbogaaagreat", sum := "0b6049d4cfd955fe3329fb943c3ca11030ba7f785c01704c7d04ae2adf9c997e", func := "shunt/shuntlaw8.FsAtom", spec := "fsAtom", inPlace := ["internal/bytealg.IndexByteString"], unfollowed := true, recurses := true, apart := false, narrowed := true }
def FsAtomUptoSaid : Prop := fsAtomUptoRow.holds Tryz.pinned (OpenSpec.upto fsAtomSpec)

end Rows
end Go.Proofs.YteihmbaimbogaaaGreat
