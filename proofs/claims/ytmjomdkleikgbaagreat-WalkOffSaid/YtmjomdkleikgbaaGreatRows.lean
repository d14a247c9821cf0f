/-
  No cell of these rows narrows 'for every input' (looked for: loops, veiled, ifaces, maps, wideKeys, modest, calm, conditions, laid).
  DERIVED. THE GIVEN ROWS OF THIS SEAT. 5 by the template 'for every input the law returns true; each argument reads behind the call as it read before'; 0 by the template 'total and deterministic' (their statements: YtmjomdkleikgbaaGreatTotals.lean).
  GIVEN WITH THE SEED: the statements are not yours to turn. If you find one false, say at which input.
  Laid BY PROGRAM, IN A SANDBOX (cutbox-rows.mjs): the forced cells as the released guide's own fill.sh prints them over the translation 5699843e7f5023f5… (all of the seat's roots in one cut). By AI agents, Wed Nov 11 2026. No macro, syntax, notation, axiom, sorry.
-/
import Derived.Test.YtmjomdkleikgbaaGreatChecked
import GoSem.Claim
import GoSem.ClaimJoined
import GoSem.ClaimMapViews
import Derived.JoinedTies
import Derived.KernelRfl
namespace Go.Proofs.YtmjomdkleikgbaaGreat
/- THE CELL 'sum', in the pinned program and in every row, IS THE sha256 OF THE DUMP (.gsa) THAT YtmjomdkleikgbaaGreatProg.lean LOADS. Nothing in Lean hashes anything: it is a label: what it is worth is what the hold of that sum in a sandbox is worth. -/
noncomputable def Tryz.pinned : Pinned := { name := "ytmjomdkleikgbaagreat", sum := "5699843e7f5023f5c03459421327dd838e6e17f39fbe0aac5c82ae32907f49c3", checked := Tryz.checked }
namespace Rows
def none {H : Type} : Left H := { results := [], args := [] }

/-- 'shuntlaw9.WalkSteps': WHATEVER THE INPUT: true; the input reads as it did. -/
def walkStepsSpec : ChangeSpec := { name := "walkSteps", fn := fun _ => fun
  | [d1, d2, d3] => { results := [.lit (.bool true)], args := [d1, d2, d3] }
  | _ => none }
def walkStepsRow : OpenClaim := { program := "ytmjomdkleikgbaagreat", sum := "5699843e7f5023f5c03459421327dd838e6e17f39fbe0aac5c82ae32907f49c3", func := "shunt/shuntlaw9.WalkSteps", spec := "walkSteps", inPlace := ["internal/bytealg.IndexByteString", "internal/bytealg.abigen_runtime_cmpstring"], unfollowed := true, recurses := true, apart := false }
def WalkStepsSaid : Prop := walkStepsRow.holds Tryz.pinned (OpenSpec.ofChange walkStepsSpec)

/-- ITS FALSE NEIGHBOUR: 'it returns false'. Refute it at one input. -/
def walkStepsWrong : ChangeSpec := { name := "walkSteps", fn := fun _ => fun
  | [d1, d2, d3] => { results := [.lit (.bool false)], args := [d1, d2, d3] }
  | _ => none }
def WalkStepsWrongFalsely : Prop := walkStepsRow.holds Tryz.pinned (OpenSpec.ofChange walkStepsWrong)

/-- 'shuntlaw9.WalkTight': WHATEVER THE INPUT: true; the input reads as it did. -/
def walkTightSpec : ChangeSpec := { name := "walkTight", fn := fun _ => fun
  | [d1, d2, d3] => { results := [.lit (.bool true)], args := [d1, d2, d3] }
  | _ => none }
def walkTightRow : OpenClaim := { program := "ytmjomdkleikgbaagreat", sum := "5699843e7f5023f5c03459421327dd838e6e17f39fbe0aac5c82ae32907f49c3", func := "shunt/shuntlaw9.WalkTight", spec := "walkTight", inPlace := ["internal/bytealg.IndexByteString", "internal/bytealg.abigen_runtime_cmpstring"], unfollowed := true, recurses := true, apart := false }
def WalkTightSaid : Prop := walkTightRow.holds Tryz.pinned (OpenSpec.ofChange walkTightSpec)

/-- ITS FALSE NEIGHBOUR: 'it returns false'. Refute it at one input. -/
def walkTightWrong : ChangeSpec := { name := "walkTight", fn := fun _ => fun
  | [d1, d2, d3] => { results := [.lit (.bool false)], args := [d1, d2, d3] }
  | _ => none }
def WalkTightWrongFalsely : Prop := walkTightRow.holds Tryz.pinned (OpenSpec.ofChange walkTightWrong)

/-- 'shuntlaw9.WalkOff': WHATEVER THE INPUT: true; the input reads as it did. -/
def walkOffSpec : ChangeSpec := { name := "walkOff", fn := fun _ => fun
  | [d1, d2] => { results := [.lit (.bool true)], args := [d1, d2] }
  | _ => none }
def walkOffRow : OpenClaim := { program := "ytmjomdkleikgbaagreat", sum := "5699843e7f5023f5c03459421327dd838e6e17f39fbe0aac5c82ae32907f49c3", func := "shunt/shuntlaw9.WalkOff", spec := "walkOff", inPlace := ["internal/bytealg.IndexByteString", "internal/bytealg.abigen_runtime_cmpstring"], unfollowed := true, recurses := true, apart := false }
def WalkOffSaid : Prop := walkOffRow.holds Tryz.pinned (OpenSpec.ofChange walkOffSpec)

/-- ITS FALSE NEIGHBOUR: 'it returns false'. Refute it at one input. -/
def walkOffWrong : ChangeSpec := { name := "walkOff", fn := fun _ => fun
  | [d1, d2] => { results := [.lit (.bool false)], args := [d1, d2] }
  | _ => none }
def WalkOffWrongFalsely : Prop := walkOffRow.holds Tryz.pinned (OpenSpec.ofChange walkOffWrong)

/-- 'shuntlaw9.WalkOrders': WHATEVER THE INPUT: true; the input reads as it did. -/
def walkOrdersSpec : ChangeSpec := { name := "walkOrders", fn := fun _ => fun
  | [d] => { results := [.lit (.bool true)], args := [d] }
  | _ => none }
def walkOrdersRow : OpenClaim := { program := "ytmjomdkleikgbaagreat", sum := "5699843e7f5023f5c03459421327dd838e6e17f39fbe0aac5c82ae32907f49c3", func := "shunt/shuntlaw9.WalkOrders", spec := "walkOrders", inPlace := ["internal/bytealg.IndexByteString", "internal/bytealg.abigen_runtime_cmpstring"], unfollowed := true, recurses := true, apart := false }
def WalkOrdersSaid : Prop := walkOrdersRow.holds Tryz.pinned (OpenSpec.ofChange walkOrdersSpec)

/-- ITS FALSE NEIGHBOUR: 'it returns false'. Refute it at one input. -/
def walkOrdersWrong : ChangeSpec := { name := "walkOrders", fn := fun _ => fun
  | [d] => { results := [.lit (.bool false)], args := [d] }
  | _ => none }
def WalkOrdersWrongFalsely : Prop := walkOrdersRow.holds Tryz.pinned (OpenSpec.ofChange walkOrdersWrong)

/-- 'shuntlaw9.WalkLays': WHATEVER THE INPUT: true; the input reads as it did. -/
def walkLaysSpec : ChangeSpec := { name := "walkLays", fn := fun _ => fun
  | [d1, d2, d3] => { results := [.lit (.bool true)], args := [d1, d2, d3] }
  | _ => none }
def walkLaysRow : OpenClaim := { program := "ytmjomdkleikgbaagreat", sum := "5699843e7f5023f5c03459421327dd838e6e17f39fbe0aac5c82ae32907f49c3", func := "shunt/shuntlaw9.WalkLays", spec := "walkLays", inPlace := ["internal/bytealg.IndexByteString", "internal/bytealg.abigen_runtime_cmpstring"], unfollowed := true, recurses := true, apart := false }
def WalkLaysSaid : Prop := walkLaysRow.holds Tryz.pinned (OpenSpec.ofChange walkLaysSpec)

/-- ITS FALSE NEIGHBOUR: 'it returns false'. Refute it at one input. -/
def walkLaysWrong : ChangeSpec := { name := "walkLays", fn := fun _ => fun
  | [d1, d2, d3] => { results := [.lit (.bool false)], args := [d1, d2, d3] }
  | _ => none }
def WalkLaysWrongFalsely : Prop := walkLaysRow.holds Tryz.pinned (OpenSpec.ofChange walkLaysWrong)

/- THE SECOND FORM. 'bulk': how many values and letters a reading holds, each counted each time it is reached (what is shared counts as often as it is met; a slice's spare places count too). A statement '..UptoSaid' is the law's where the arguments, and the package variables that the reading takes, are together of bulk at most 1048576: NARROWER than '..Said'. Prove '..Said' where nothing that the law and all that it calls make is longer than what came in: it says more and counts as full. Else prove '..UptoSaid'. A law counts once. -/
mutual
def uptoBulk {H : Type} : DataW H → Nat
  | .lit (.string bytes) => bytes.length + 1
  | .lit _ => 1
  | .nil => 1
  | .ptr d => uptoBulk d + 1
  | .slice elems spare => uptoBulkAll elems + uptoBulkAll spare + 1
  | .agg parts => uptoBulkAll parts + 1
  | .iface _ d => uptoBulk d + 1
  | .map entries => uptoBulkEntries entries + 1
  | .held _ => 1
def uptoBulkAll {H : Type} : List (DataW H) → Nat
  | [] => 0
  | d :: r => uptoBulk d + uptoBulkAll r
def uptoBulkEntries {H : Type} : List (Lit × DataW H) → Nat
  | [] => 0
  | x :: r => uptoBulkEntry x + uptoBulkEntries r
def uptoBulkEntry {H : Type} : Lit × DataW H → Nat
  | (.string bytes, d) => bytes.length + uptoBulk d + 1
  | (_, d) => uptoBulk d + 1
 end
def uptoSmall : (H : Type) → List (DataW H) → Bool := fun _ ds => decide (uptoBulkAll ds ≤ 1048576)
def OpenSpec.upto (s : _root_.Go.ChangeSpec) : _root_.Go.OpenSpec := { _root_.Go.OpenSpec.ofChange s with cond := some uptoSmall }

/-- 'shuntlaw9.WalkSteps', WHERE WHAT IT READS IS OF BULK AT MOST 1048576: true; the input reads as it did. -/
def walkStepsUptoRow : OpenClaim := { program := "ytmjomdkleikgbaagreat", sum := "5699843e7f5023f5c03459421327dd838e6e17f39fbe0aac5c82ae32907f49c3", func := "shunt/shuntlaw9.WalkSteps", spec := "walkSteps", inPlace := ["internal/bytealg.IndexByteString", "internal/bytealg.abigen_runtime_cmpstring"], unfollowed := true, recurses := true, apart := false, narrowed := true }
def WalkStepsUptoSaid : Prop := walkStepsUptoRow.holds Tryz.pinned (OpenSpec.upto walkStepsSpec)

/-- 'shuntlaw9.WalkTight', WHERE WHAT IT READS IS OF BULK AT MOST 1048576: true; the input reads as it did. -/
def walkTightUptoRow : OpenClaim := { program := "ytmjomdkleikgbaagreat", sum := "5699843e7f5023f5c03459421327dd838e6e17f39fbe0aac5c82ae32907f49c3", func := "shunt/shuntlaw9.WalkTight", spec := "walkTight", inPlace := ["internal/bytealg.IndexByteString", "internal/bytealg.abigen_runtime_cmpstring"], unfollowed := true, recurses := true, apart := false, narrowed := true }
def WalkTightUptoSaid : Prop := walkTightUptoRow.holds Tryz.pinned (OpenSpec.upto walkTightSpec)

/-- 'shuntlaw9.WalkOff', WHERE WHAT IT READS IS OF BULK AT MOST 1048576: true; the input reads as it did. -/
def walkOffUptoRow : OpenClaim := { program := "ytmjomdkleikgbaagreat", sum := "5699843e7f5023f5c03459421327dd838e6e17f39fbe0aac5c82ae32907f49c3", func := "shunt/shuntlaw9.WalkOff", spec := "walkOff", inPlace := ["internal/bytealg.IndexByteString", "internal/bytealg.abigen_runtime_cmpstring"], unfollowed := true, recurses := true, apart := false, narrowed := true }
def WalkOffUptoSaid : Prop := walkOffUptoRow.holds Tryz.pinned (OpenSpec.upto walkOffSpec)

/-- 'shuntlaw9.WalkOrders', WHERE WHAT IT READS IS OF BULK AT MOST 1048576: true; the input reads as it did. -/
def walkOrdersUptoRow : OpenClaim := { program := "ytmjomdkleikgbaagreat", sum := "5699843e7f5023f5c03459421327dd838e6e17f39fbe0aac5c82ae32907f49c3", func := "shunt/shuntlaw9.WalkOrders", spec := "walkOrders", inPlace := ["internal/bytealg.IndexByteString", "internal/bytealg.abigen_runtime_cmpstring"], unfollowed := true, recurses := true, apart := false, narrowed := true }
def WalkOrdersUptoSaid : Prop := walkOrdersUptoRow.holds Tryz.pinned (OpenSpec.upto walkOrdersSpec)

/-- 'shuntlaw9.WalkLays', WHERE WHAT IT READS IS OF BULK AT MOST 1048576: true; the input reads as it did. -/
def walkLaysUptoRow : OpenClaim := { program := "ytmjomdkleikgbaagreat", sum := "5699843e7f5023f5c03459421327dd838e6e17f39fbe0aac5c82ae32907f49c3", func := "shunt/shuntlaw9.WalkLays", spec := "walkLays", inPlace := ["internal/bytealg.IndexByteString", "internal/bytealg.abigen_runtime_cmpstring"], unfollowed := true, recurses := true, apart := false, narrowed := true }
def WalkLaysUptoSaid : Prop := walkLaysUptoRow.holds Tryz.pinned (OpenSpec.upto walkLaysSpec)

end Rows
end Go.Proofs.YtmjomdkleikgbaaGreat
