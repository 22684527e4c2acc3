/-
  No cell of these rows narrows 'for every input' (looked for: loops, veiled, ifaces, maps, wideKeys, modest, calm, conditions, laid).
  DERIVED. THE GIVEN ROWS OF THIS SEAT. 15 by the template 'for every input the law returns true; each argument reads behind the call as it read before'; 0 by the template 'total and deterministic' (their statements: YtiocbpimlemafaaTotals.lean).
  GIVEN WITH THE SEED: the statements are not yours to turn. If you find one false, say at which input.
  Laid BY PROGRAM, IN A SANDBOX (cutbox-rows.mjs): the forced cells as the released guide's own fill.sh prints them over the translation 3f983d9909472a72… (all of the seat's roots in one cut). By AI agents, Wed Nov 11 2026. No macro, syntax, notation, axiom, sorry.
-/
import Derived.Test.YtiocbpimlemafaaChecked
import GoSem.Claim
import GoSem.ClaimJoined
import GoSem.ClaimMapViews
import Derived.JoinedTies
import Derived.KernelRfl
namespace Go.Proofs.Ytiocbpimlemafaa
/- THE CELL 'sum', in the pinned program and in every row, IS THE sha256 OF THE DUMP (.gsa) THAT YtiocbpimlemafaaProg.lean LOADS. Nothing in Lean hashes anything: it is a label: what it is worth is what the hold of that sum in a sandbox is worth. -/
noncomputable def Try.pinned : Pinned := { name := "ytiocbpimlemafaa", sum := "3f983d9909472a7214e1836704726f035962a32ad6e035c2ba1e4a14464b7681", checked := Try.checked }
namespace Rows
def none {H : Type} : Left H := { results := [], args := [] }

/-- 'causewaylaw02.FieldNames': WHATEVER THE INPUT: true; the input reads as it did. -/
def fieldNamesSpec : ChangeSpec := { name := "fieldNames", fn := fun _ => fun
  | [] => { results := [.lit (.bool true)], args := [] }
  | _ => none }
def fieldNamesRow : OpenClaim := { program := "ytiocbpimlemafaa", sum := "3f983d9909472a7214e1836704726f035962a32ad6e035c2ba1e4a14464b7681", func := "causeway/causewaylaw02.FieldNames", spec := "fieldNames", inPlace := ["math/bits.Add64"], apart := false }
def FieldNamesSaid : Prop := fieldNamesRow.holds Try.pinned (OpenSpec.ofChange fieldNamesSpec)

/-- ITS FALSE NEIGHBOUR: 'it returns false'. Refute it at one input. -/
def fieldNamesWrong : ChangeSpec := { name := "fieldNames", fn := fun _ => fun
  | [] => { results := [.lit (.bool false)], args := [] }
  | _ => none }
def FieldNamesWrongFalsely : Prop := fieldNamesRow.holds Try.pinned (OpenSpec.ofChange fieldNamesWrong)

/-- 'causewaylaw03.CurveNames': WHATEVER THE INPUT: true; the input reads as it did. -/
def curveNamesSpec : ChangeSpec := { name := "curveNames", fn := fun _ => fun
  | [] => { results := [.lit (.bool true)], args := [] }
  | _ => none }
def curveNamesRow : OpenClaim := { program := "ytiocbpimlemafaa", sum := "3f983d9909472a7214e1836704726f035962a32ad6e035c2ba1e4a14464b7681", func := "causeway/causewaylaw03.CurveNames", spec := "curveNames", inPlace := ["math/bits.Add64"], apart := false }
def CurveNamesSaid : Prop := curveNamesRow.holds Try.pinned (OpenSpec.ofChange curveNamesSpec)

/-- ITS FALSE NEIGHBOUR: 'it returns false'. Refute it at one input. -/
def curveNamesWrong : ChangeSpec := { name := "curveNames", fn := fun _ => fun
  | [] => { results := [.lit (.bool false)], args := [] }
  | _ => none }
def CurveNamesWrongFalsely : Prop := curveNamesRow.holds Try.pinned (OpenSpec.ofChange curveNamesWrong)

/-- 'causewaylaw09.CipherOnce': WHATEVER THE INPUT: true; the input reads as it did. -/
def cipherOnceSpec : ChangeSpec := { name := "cipherOnce", fn := fun _ => fun
  | [d1, d2, d3] => { results := [.lit (.bool true)], args := [d1, d2, d3] }
  | _ => none }
def cipherOnceRow : OpenClaim := { program := "ytiocbpimlemafaa", sum := "3f983d9909472a7214e1836704726f035962a32ad6e035c2ba1e4a14464b7681", func := "causeway/causewaylaw09.CipherOnce", spec := "cipherOnce", inPlace := ["math/bits.Add64"], unfollowed := true, recurses := true, apart := false }
def CipherOnceSaid : Prop := cipherOnceRow.holds Try.pinned (OpenSpec.ofChange cipherOnceSpec)

/-- ITS FALSE NEIGHBOUR: 'it returns false'. Refute it at one input. -/
def cipherOnceWrong : ChangeSpec := { name := "cipherOnce", fn := fun _ => fun
  | [d1, d2, d3] => { results := [.lit (.bool false)], args := [d1, d2, d3] }
  | _ => none }
def CipherOnceWrongFalsely : Prop := cipherOnceRow.holds Try.pinned (OpenSpec.ofChange cipherOnceWrong)

/-- 'causewaylaw09.CipherOrder': WHATEVER THE INPUT: true; the input reads as it did. -/
def cipherOrderSpec : ChangeSpec := { name := "cipherOrder", fn := fun _ => fun
  | [d1, d2] => { results := [.lit (.bool true)], args := [d1, d2] }
  | _ => none }
def cipherOrderRow : OpenClaim := { program := "ytiocbpimlemafaa", sum := "3f983d9909472a7214e1836704726f035962a32ad6e035c2ba1e4a14464b7681", func := "causeway/causewaylaw09.CipherOrder", spec := "cipherOrder", inPlace := ["math/bits.Add64"], unfollowed := true, recurses := true, apart := false }
def CipherOrderSaid : Prop := cipherOrderRow.holds Try.pinned (OpenSpec.ofChange cipherOrderSpec)

/-- ITS FALSE NEIGHBOUR: 'it returns false'. Refute it at one input. -/
def cipherOrderWrong : ChangeSpec := { name := "cipherOrder", fn := fun _ => fun
  | [d1, d2] => { results := [.lit (.bool false)], args := [d1, d2] }
  | _ => none }
def CipherOrderWrongFalsely : Prop := cipherOrderRow.holds Try.pinned (OpenSpec.ofChange cipherOrderWrong)

/-- 'causewaylaw09.CipherAny': WHATEVER THE INPUT: true; the input reads as it did. -/
def cipherAnySpec : ChangeSpec := { name := "cipherAny", fn := fun _ => fun
  | [d1, d2, d3] => { results := [.lit (.bool true)], args := [d1, d2, d3] }
  | _ => none }
def cipherAnyRow : OpenClaim := { program := "ytiocbpimlemafaa", sum := "3f983d9909472a7214e1836704726f035962a32ad6e035c2ba1e4a14464b7681", func := "causeway/causewaylaw09.CipherAny", spec := "cipherAny", inPlace := ["math/bits.Add64"], unfollowed := true, recurses := true, apart := false }
def CipherAnySaid : Prop := cipherAnyRow.holds Try.pinned (OpenSpec.ofChange cipherAnySpec)

/-- ITS FALSE NEIGHBOUR: 'it returns false'. Refute it at one input. -/
def cipherAnyWrong : ChangeSpec := { name := "cipherAny", fn := fun _ => fun
  | [d1, d2, d3] => { results := [.lit (.bool false)], args := [d1, d2, d3] }
  | _ => none }
def CipherAnyWrongFalsely : Prop := cipherAnyRow.holds Try.pinned (OpenSpec.ofChange cipherAnyWrong)

/-- 'causewaylaw09.CipherBoxes': WHATEVER THE INPUT: true; the input reads as it did. -/
def cipherBoxesSpec : ChangeSpec := { name := "cipherBoxes", fn := fun _ => fun
  | [d1, d2, d3] => { results := [.lit (.bool true)], args := [d1, d2, d3] }
  | _ => none }
def cipherBoxesRow : OpenClaim := { program := "ytiocbpimlemafaa", sum := "3f983d9909472a7214e1836704726f035962a32ad6e035c2ba1e4a14464b7681", func := "causeway/causewaylaw09.CipherBoxes", spec := "cipherBoxes", inPlace := ["math/bits.Add64"], unfollowed := true, recurses := true, apart := false }
def CipherBoxesSaid : Prop := cipherBoxesRow.holds Try.pinned (OpenSpec.ofChange cipherBoxesSpec)

/-- ITS FALSE NEIGHBOUR: 'it returns false'. Refute it at one input. -/
def cipherBoxesWrong : ChangeSpec := { name := "cipherBoxes", fn := fun _ => fun
  | [d1, d2, d3] => { results := [.lit (.bool false)], args := [d1, d2, d3] }
  | _ => none }
def CipherBoxesWrongFalsely : Prop := cipherBoxesRow.holds Try.pinned (OpenSpec.ofChange cipherBoxesWrong)

/-- 'causewaylaw09.CipherSkips': WHATEVER THE INPUT: true; the input reads as it did. -/
def cipherSkipsSpec : ChangeSpec := { name := "cipherSkips", fn := fun _ => fun
  | [d1, d2] => { results := [.lit (.bool true)], args := [d1, d2] }
  | _ => none }
def cipherSkipsRow : OpenClaim := { program := "ytiocbpimlemafaa", sum := "3f983d9909472a7214e1836704726f035962a32ad6e035c2ba1e4a14464b7681", func := "causeway/causewaylaw09.CipherSkips", spec := "cipherSkips", inPlace := ["math/bits.Add64"], unfollowed := true, recurses := true, apart := false }
def CipherSkipsSaid : Prop := cipherSkipsRow.holds Try.pinned (OpenSpec.ofChange cipherSkipsSpec)

/-- ITS FALSE NEIGHBOUR: 'it returns false'. Refute it at one input. -/
def cipherSkipsWrong : ChangeSpec := { name := "cipherSkips", fn := fun _ => fun
  | [d1, d2] => { results := [.lit (.bool false)], args := [d1, d2] }
  | _ => none }
def CipherSkipsWrongFalsely : Prop := cipherSkipsRow.holds Try.pinned (OpenSpec.ofChange cipherSkipsWrong)

/-- 'causewaylaw09.CipherRekey': WHATEVER THE INPUT: true; the input reads as it did. -/
def cipherRekeySpec : ChangeSpec := { name := "cipherRekey", fn := fun _ => fun
  | [d1, d2] => { results := [.lit (.bool true)], args := [d1, d2] }
  | _ => none }
def cipherRekeyRow : OpenClaim := { program := "ytiocbpimlemafaa", sum := "3f983d9909472a7214e1836704726f035962a32ad6e035c2ba1e4a14464b7681", func := "causeway/causewaylaw09.CipherRekey", spec := "cipherRekey", inPlace := ["math/bits.Add64"], unfollowed := true, recurses := true, apart := false }
def CipherRekeySaid : Prop := cipherRekeyRow.holds Try.pinned (OpenSpec.ofChange cipherRekeySpec)

/-- ITS FALSE NEIGHBOUR: 'it returns false'. Refute it at one input. -/
def cipherRekeyWrong : ChangeSpec := { name := "cipherRekey", fn := fun _ => fun
  | [d1, d2] => { results := [.lit (.bool false)], args := [d1, d2] }
  | _ => none }
def CipherRekeyWrongFalsely : Prop := cipherRekeyRow.holds Try.pinned (OpenSpec.ofChange cipherRekeyWrong)

/-- 'causewaylaw09.CipherChanges': WHATEVER THE INPUT: true; the input reads as it did. -/
def cipherChangesSpec : ChangeSpec := { name := "cipherChanges", fn := fun _ => fun
  | [d1, d2, d3] => { results := [.lit (.bool true)], args := [d1, d2, d3] }
  | _ => none }
def cipherChangesRow : OpenClaim := { program := "ytiocbpimlemafaa", sum := "3f983d9909472a7214e1836704726f035962a32ad6e035c2ba1e4a14464b7681", func := "causeway/causewaylaw09.CipherChanges", spec := "cipherChanges", inPlace := ["math/bits.Add64"], unfollowed := true, recurses := true, apart := false }
def CipherChangesSaid : Prop := cipherChangesRow.holds Try.pinned (OpenSpec.ofChange cipherChangesSpec)

/-- ITS FALSE NEIGHBOUR: 'it returns false'. Refute it at one input. -/
def cipherChangesWrong : ChangeSpec := { name := "cipherChanges", fn := fun _ => fun
  | [d1, d2, d3] => { results := [.lit (.bool false)], args := [d1, d2, d3] }
  | _ => none }
def CipherChangesWrongFalsely : Prop := cipherChangesRow.holds Try.pinned (OpenSpec.ofChange cipherChangesWrong)

/-- 'causewaylaw09.CipherPlays': WHATEVER THE INPUT: true; the input reads as it did. -/
def cipherPlaysSpec : ChangeSpec := { name := "cipherPlays", fn := fun _ => fun
  | [d1, d2] => { results := [.lit (.bool true)], args := [d1, d2] }
  | _ => none }
def cipherPlaysRow : OpenClaim := { program := "ytiocbpimlemafaa", sum := "3f983d9909472a7214e1836704726f035962a32ad6e035c2ba1e4a14464b7681", func := "causeway/causewaylaw09.CipherPlays", spec := "cipherPlays", inPlace := ["math/bits.Add64"], unfollowed := true, recurses := true, apart := false }
def CipherPlaysSaid : Prop := cipherPlaysRow.holds Try.pinned (OpenSpec.ofChange cipherPlaysSpec)

/-- ITS FALSE NEIGHBOUR: 'it returns false'. Refute it at one input. -/
def cipherPlaysWrong : ChangeSpec := { name := "cipherPlays", fn := fun _ => fun
  | [d1, d2] => { results := [.lit (.bool false)], args := [d1, d2] }
  | _ => none }
def CipherPlaysWrongFalsely : Prop := cipherPlaysRow.holds Try.pinned (OpenSpec.ofChange cipherPlaysWrong)

/-- 'causewaylaw09.CipherNames': WHATEVER THE INPUT: true; the input reads as it did. -/
def cipherNamesSpec : ChangeSpec := { name := "cipherNames", fn := fun _ => fun
  | [] => { results := [.lit (.bool true)], args := [] }
  | _ => none }
def cipherNamesRow : OpenClaim := { program := "ytiocbpimlemafaa", sum := "3f983d9909472a7214e1836704726f035962a32ad6e035c2ba1e4a14464b7681", func := "causeway/causewaylaw09.CipherNames", spec := "cipherNames", inPlace := ["math/bits.Add64"], unfollowed := true, recurses := true, apart := false }
def CipherNamesSaid : Prop := cipherNamesRow.holds Try.pinned (OpenSpec.ofChange cipherNamesSpec)

/-- ITS FALSE NEIGHBOUR: 'it returns false'. Refute it at one input. -/
def cipherNamesWrong : ChangeSpec := { name := "cipherNames", fn := fun _ => fun
  | [] => { results := [.lit (.bool false)], args := [] }
  | _ => none }
def CipherNamesWrongFalsely : Prop := cipherNamesRow.holds Try.pinned (OpenSpec.ofChange cipherNamesWrong)

/-- 'causewaylaw10.HandTurns': WHATEVER THE INPUT: true; the input reads as it did. -/
def handTurnsSpec : ChangeSpec := { name := "handTurns", fn := fun _ => fun
  | [d] => { results := [.lit (.bool true)], args := [d] }
  | _ => none }
def handTurnsRow : OpenClaim := { program := "ytiocbpimlemafaa", sum := "3f983d9909472a7214e1836704726f035962a32ad6e035c2ba1e4a14464b7681", func := "causeway/causewaylaw10.HandTurns", spec := "handTurns", inPlace := ["math/bits.Add64"], unfollowed := true, recurses := true, apart := false }
def HandTurnsSaid : Prop := handTurnsRow.holds Try.pinned (OpenSpec.ofChange handTurnsSpec)

/-- ITS FALSE NEIGHBOUR: 'it returns false'. Refute it at one input. -/
def handTurnsWrong : ChangeSpec := { name := "handTurns", fn := fun _ => fun
  | [d] => { results := [.lit (.bool false)], args := [d] }
  | _ => none }
def HandTurnsWrongFalsely : Prop := handTurnsRow.holds Try.pinned (OpenSpec.ofChange handTurnsWrong)

/-- 'causewaylaw10.HandLengths': WHATEVER THE INPUT: true; the input reads as it did. -/
def handLengthsSpec : ChangeSpec := { name := "handLengths", fn := fun _ => fun
  | [d1, d2] => { results := [.lit (.bool true)], args := [d1, d2] }
  | _ => none }
def handLengthsRow : OpenClaim := { program := "ytiocbpimlemafaa", sum := "3f983d9909472a7214e1836704726f035962a32ad6e035c2ba1e4a14464b7681", func := "causeway/causewaylaw10.HandLengths", spec := "handLengths", inPlace := ["math/bits.Add64"], unfollowed := true, recurses := true, apart := false }
def HandLengthsSaid : Prop := handLengthsRow.holds Try.pinned (OpenSpec.ofChange handLengthsSpec)

/-- ITS FALSE NEIGHBOUR: 'it returns false'. Refute it at one input. -/
def handLengthsWrong : ChangeSpec := { name := "handLengths", fn := fun _ => fun
  | [d1, d2] => { results := [.lit (.bool false)], args := [d1, d2] }
  | _ => none }
def HandLengthsWrongFalsely : Prop := handLengthsRow.holds Try.pinned (OpenSpec.ofChange handLengthsWrong)

/-- 'causewaylaw10.HandOthers': WHATEVER THE INPUT: true; the input reads as it did. -/
def handOthersSpec : ChangeSpec := { name := "handOthers", fn := fun _ => fun
  | [] => { results := [.lit (.bool true)], args := [] }
  | _ => none }
def handOthersRow : OpenClaim := { program := "ytiocbpimlemafaa", sum := "3f983d9909472a7214e1836704726f035962a32ad6e035c2ba1e4a14464b7681", func := "causeway/causewaylaw10.HandOthers", spec := "handOthers", inPlace := ["math/bits.Add64"], unfollowed := true, recurses := true, apart := false }
def HandOthersSaid : Prop := handOthersRow.holds Try.pinned (OpenSpec.ofChange handOthersSpec)

/-- ITS FALSE NEIGHBOUR: 'it returns false'. Refute it at one input. -/
def handOthersWrong : ChangeSpec := { name := "handOthers", fn := fun _ => fun
  | [] => { results := [.lit (.bool false)], args := [] }
  | _ => none }
def HandOthersWrongFalsely : Prop := handOthersRow.holds Try.pinned (OpenSpec.ofChange handOthersWrong)

/-- 'causewaylaw10.HandPoints': WHATEVER THE INPUT: true; the input reads as it did. -/
def handPointsSpec : ChangeSpec := { name := "handPoints", fn := fun _ => fun
  | [d1, d2] => { results := [.lit (.bool true)], args := [d1, d2] }
  | _ => none }
def handPointsRow : OpenClaim := { program := "ytiocbpimlemafaa", sum := "3f983d9909472a7214e1836704726f035962a32ad6e035c2ba1e4a14464b7681", func := "causeway/causewaylaw10.HandPoints", spec := "handPoints", inPlace := ["math/bits.Add64"], unfollowed := true, recurses := true, apart := false }
def HandPointsSaid : Prop := handPointsRow.holds Try.pinned (OpenSpec.ofChange handPointsSpec)

/-- ITS FALSE NEIGHBOUR: 'it returns false'. Refute it at one input. -/
def handPointsWrong : ChangeSpec := { name := "handPoints", fn := fun _ => fun
  | [d1, d2] => { results := [.lit (.bool false)], args := [d1, d2] }
  | _ => none }
def HandPointsWrongFalsely : Prop := handPointsRow.holds Try.pinned (OpenSpec.ofChange handPointsWrong)

/- THE SECOND FORM. 'bulk': how many values and letters a reading holds, each counted each time it is reached (what is shared counts as often as it is met; a slice's spare places count too). A statement '..UptoSaid' is the law's where the arguments, and the package variables that the reading takes, are together of bulk at most 1048576: NARROWER than '..Said'. Prove '..Said' where nothing that the law and all that it calls make is longer than what came in: it says more and counts as full. Else prove '..UptoSaid'. A law counts once. -/
mutual
def uptoBulk {H : Type} : DataW H → Nat
  | .lit (.string bytes) => bytes.length + 1
  | .lit _ => 1
  | .nil => 1
  | .ptr d => uptoBulk d + 1
  | .slice elems spare => uptoBulkAll elems + uptoBulkAll spare + 1
  | .agg parts => uptoBulkAll parts + 1
  | .iface _ d => uptoBulk d + 1
  | .map entries => uptoBulkEntries entries + 1
  | .held _ => 1
def uptoBulkAll {H : Type} : List (DataW H) → Nat
  | [] => 0
  | d :: r => uptoBulk d + uptoBulkAll r
def uptoBulkEntries {H : Type} : List (Lit × DataW H) → Nat
  | [] => 0
  | x :: r => uptoBulkEntry x + uptoBulkEntries r
def uptoBulkEntry {H : Type} : Lit × DataW H → Nat
  | (.string bytes, d) => bytes.length + uptoBulk d + 1
  | (_, d) => uptoBulk d + 1
 end
def uptoSmall : (H : Type) → List (DataW H) → Bool := fun _ ds => decide (uptoBulkAll ds ≤ 1048576)
def OpenSpec.upto (s : _root_.Go.ChangeSpec) : _root_.Go.OpenSpec := { _root_.Go.OpenSpec.ofChange s with cond := some uptoSmall }

/-- 'causewaylaw02.FieldNames', WHERE WHAT IT READS IS OF BULK AT MOST 1048576: true; the input reads as it did. -/
def fieldNamesUptoRow : OpenClaim := { program := "ytiocbpimlemafaa", sum := "3f983d9909472a7214e1836704726f035962a32ad6e035c2ba1e4a14464b7681", func := "causeway/causewaylaw02.FieldNames", spec := "fieldNames", inPlace := ["math/bits.Add64"], apart := false, narrowed := true }
def FieldNamesUptoSaid : Prop := fieldNamesUptoRow.holds Try.pinned (OpenSpec.upto fieldNamesSpec)

/-- 'causewaylaw03.CurveNames', WHERE WHAT IT READS IS OF BULK AT MOST 1048576: true; the input reads as it did. -/
def curveNamesUptoRow : OpenClaim := { program := "ytiocbpimlemafaa", sum := "3f983d9909472a7214e1836704726f035962a32ad6e035c2ba1e4a14464b7681", func := "causeway/causewaylaw03.CurveNames", spec := "curveNames", inPlace := ["math/bits.Add64"], apart := false, narrowed := true }
def CurveNamesUptoSaid : Prop := curveNamesUptoRow.holds Try.pinned (OpenSpec.upto curveNamesSpec)

/-- 'causewaylaw09.CipherOnce', WHERE WHAT IT READS IS OF BULK AT MOST 1048576: true; the input reads as it did. -/
def cipherOnceUptoRow : OpenClaim := { program := "ytiocbpimlemafaa", sum := "3f983d9909472a7214e1836704726f035962a32ad6e035c2ba1e4a14464b7681", func := "causeway/causewaylaw09.CipherOnce", spec := "cipherOnce", inPlace := ["math/bits.Add64"], unfollowed := true, recurses := true, apart := false, narrowed := true }
def CipherOnceUptoSaid : Prop := cipherOnceUptoRow.holds Try.pinned (OpenSpec.upto cipherOnceSpec)

/-- 'causewaylaw09.CipherOrder', WHERE WHAT IT READS IS OF BULK AT MOST 1048576: true; the input reads as it did. -/
def cipherOrderUptoRow : OpenClaim := { program := "ytiocbpimlemafaa", sum := "3f983d9909472a7214e1836704726f035962a32ad6e035c2ba1e4a14464b7681", func := "causeway/causewaylaw09.CipherOrder", spec := "cipherOrder", inPlace := ["math/bits.Add64"], unfollowed := true, recurses := true, apart := false, narrowed := true }
def CipherOrderUptoSaid : Prop := cipherOrderUptoRow.holds Try.pinned (OpenSpec.upto cipherOrderSpec)

/-- 'causewaylaw09.CipherAny', WHERE WHAT IT READS IS OF BULK AT MOST 1048576: true; the input reads as it did. -/
def cipherAnyUptoRow : OpenClaim := { program := "ytiocbpimlemafaa", sum := "3f983d9909472a7214e1836704726f035962a32ad6e035c2ba1e4a14464b7681", func := "causeway/causewaylaw09.CipherAny", spec := "cipherAny", inPlace := ["math/bits.Add64"], unfollowed := true, recurses := true, apart := false, narrowed := true }
def CipherAnyUptoSaid : Prop := cipherAnyUptoRow.holds Try.pinned (OpenSpec.upto cipherAnySpec)

/-- 'causewaylaw09.CipherBoxes', WHERE WHAT IT READS IS OF BULK AT MOST 1048576: true; the input reads as it did. -/
def cipherBoxesUptoRow : OpenClaim := { program := "ytiocbpimlemafaa", sum := "3f983d9909472a7214e1836704726f035962a32ad6e035c2ba1e4a14464b7681", func := "causeway/causewaylaw09.CipherBoxes", spec := "cipherBoxes", inPlace := ["math/bits.Add64"], unfollowed := true, recurses := true, apart := false, narrowed := true }
def CipherBoxesUptoSaid : Prop := cipherBoxesUptoRow.holds Try.pinned (OpenSpec.upto cipherBoxesSpec)

/-- 'causewaylaw09.CipherSkips', WHERE WHAT IT READS IS OF BULK AT MOST 1048576: true; the input reads as it did. -/
def cipherSkipsUptoRow : OpenClaim := { program := "ytiocbpimlemafaa", sum := "3f983d9909472a7214e1836704726f035962a32ad6e035c2ba1e4a14464b7681", func := "causeway/causewaylaw09.CipherSkips", spec := "cipherSkips", inPlace := ["math/bits.Add64"], unfollowed := true, recurses := true, apart := false, narrowed := true }
def CipherSkipsUptoSaid : Prop := cipherSkipsUptoRow.holds Try.pinned (OpenSpec.upto cipherSkipsSpec)

/-- 'causewaylaw09.CipherRekey', WHERE WHAT IT READS IS OF BULK AT MOST 1048576: true; the input reads as it did. -/
def cipherRekeyUptoRow : OpenClaim := { program := "ytiocbpimlemafaa", sum := "3f983d9909472a7214e1836704726f035962a32ad6e035c2ba1e4a14464b7681", func := "causeway/causewaylaw09.CipherRekey", spec := "cipherRekey", inPlace := ["math/bits.Add64"], unfollowed := true, recurses := true, apart := false, narrowed := true }
def CipherRekeyUptoSaid : Prop := cipherRekeyUptoRow.holds Try.pinned (OpenSpec.upto cipherRekeySpec)

/-- 'causewaylaw09.CipherChanges', WHERE WHAT IT READS IS OF BULK AT MOST 1048576: true; the input reads as it did. -/
def cipherChangesUptoRow : OpenClaim := { program := "ytiocbpimlemafaa", sum := "3f983d9909472a7214e1836704726f035962a32ad6e035c2ba1e4a14464b7681", func := "causeway/causewaylaw09.CipherChanges", spec := "cipherChanges", inPlace := ["math/bits.Add64"], unfollowed := true, recurses := true, apart := false, narrowed := true }
def CipherChangesUptoSaid : Prop := cipherChangesUptoRow.holds Try.pinned (OpenSpec.upto cipherChangesSpec)

/-- 'causewaylaw09.CipherPlays', WHERE WHAT IT READS IS OF BULK AT MOST 1048576: true; the input reads as it did. -/
def cipherPlaysUptoRow : OpenClaim := { program := "ytiocbpimlemafaa", sum := "3f983d9909472a7214e1836704726f035962a32ad6e035c2ba1e4a14464b7681", func := "causeway/causewaylaw09.CipherPlays", spec := "cipherPlays", inPlace := ["math/bits.Add64"], unfollowed := true, recurses := true, apart := false, narrowed := true }
def CipherPlaysUptoSaid : Prop := cipherPlaysUptoRow.holds Try.pinned (OpenSpec.upto cipherPlaysSpec)

/-- 'causewaylaw09.CipherNames', WHERE WHAT IT READS IS OF BULK AT MOST 1048576: true; the input reads as it did. -/
def cipherNamesUptoRow : OpenClaim := { program := "ytiocbpimlemafaa", sum := "3f983d9909472a7214e1836704726f035962a32ad6e035c2ba1e4a14464b7681", func := "causeway/causewaylaw09.CipherNames", spec := "cipherNames", inPlace := ["math/bits.Add64"], unfollowed := true, recurses := true, apart := false, narrowed := true }
def CipherNamesUptoSaid : Prop := cipherNamesUptoRow.holds Try.pinned (OpenSpec.upto cipherNamesSpec)

/-- 'causewaylaw10.HandTurns', WHERE WHAT IT READS IS OF BULK AT MOST 1048576: true; the input reads as it did. -/
def handTurnsUptoRow : OpenClaim := { program := "ytiocbpimlemafaa", sum := "3f983d9909472a7214e1836704726f035962a32ad6e035c2ba1e4a14464b7681", func := "causeway/causewaylaw10.HandTurns", spec := "handTurns", inPlace := ["math/bits.Add64"], unfollowed := true, recurses := true, apart := false, narrowed := true }
def HandTurnsUptoSaid : Prop := handTurnsUptoRow.holds Try.pinned (OpenSpec.upto handTurnsSpec)

/-- 'causewaylaw10.HandLengths', WHERE WHAT IT READS IS OF BULK AT MOST 1048576: true; the input reads as it did. -/
def handLengthsUptoRow : OpenClaim := { program := "ytiocbpimlemafaa", sum := "3f983d9909472a7214e1836704726f035962a32ad6e035c2ba1e4a14464b7681", func := "causeway/causewaylaw10.HandLengths", spec := "handLengths", inPlace := ["math/bits.Add64"], unfollowed := true, recurses := true, apart := false, narrowed := true }
def HandLengthsUptoSaid : Prop := handLengthsUptoRow.holds Try.pinned (OpenSpec.upto handLengthsSpec)

/-- 'causewaylaw10.HandOthers', WHERE WHAT IT READS IS OF BULK AT MOST 1048576: true; the input reads as it did. -/
def handOthersUptoRow : OpenClaim := { program := "ytiocbpimlemafaa", sum := "3f983d9909472a7214e1836704726f035962a32ad6e035c2ba1e4a14464b7681", func := "causeway/causewaylaw10.HandOthers", spec := "handOthers", inPlace := ["math/bits.Add64"], unfollowed := true, recurses := true, apart := false, narrowed := true }
def HandOthersUptoSaid : Prop := handOthersUptoRow.holds Try.pinned (OpenSpec.upto handOthersSpec)

/-- 'causewaylaw10.HandPoints', WHERE WHAT IT READS IS OF BULK AT MOST 1048576: true; the input reads as it did. -/
def handPointsUptoRow : OpenClaim := { program := "ytiocbpimlemafaa", sum := "3f983d9909472a7214e1836704726f035962a32ad6e035c2ba1e4a14464b7681", func := "causeway/causewaylaw10.HandPoints", spec := "handPoints", inPlace := ["math/bits.Add64"], unfollowed := true, recurses := true, apart := false, narrowed := true }
def HandPointsUptoSaid : Prop := handPointsUptoRow.holds Try.pinned (OpenSpec.upto handPointsSpec)

end Rows
end Go.Proofs.Ytiocbpimlemafaa
