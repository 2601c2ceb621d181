/-
  No cell of these rows narrows 'for every input' (looked for: loops, veiled, ifaces, maps, wideKeys, modest, calm, conditions, laid).
  DERIVED. THE GIVEN ROWS OF THIS SEAT. 14 by the template 'for every input the law returns true; each argument reads behind the call as it read before'; 0 by the template 'total and deterministic' (their statements: YtnlfhbohcgjcbaaTotals.lean).
  GIVEN WITH THE SEED: the statements are not yours to turn. If you find one false, say at which input.
  Laid BY PROGRAM, IN A SANDBOX (cutbox-rows.mjs): the forced cells as the released guide's own fill.sh prints them over the translation c995a923a4469bd1… (all of the seat's roots in one cut). By AI agents, Wed Nov 11 2026. No macro, syntax, notation, axiom, sorry.
-/
import Derived.Test.YtnlfhbohcgjcbaaChecked
import GoSem.Claim
import GoSem.ClaimJoined
import GoSem.ClaimMapViews
import Derived.JoinedTies
import Derived.KernelRfl
namespace Go.Proofs.Ytnlfhbohcgjcbaa
/- THE CELL 'sum', in the pinned program and in every row, IS THE sha256 OF THE DUMP (.gsa) THAT YtnlfhbohcgjcbaaProg.lean LOADS. Nothing in Lean hashes anything: it is a label: what it is worth is what the hold of that sum in a sandbox is worth. -/
noncomputable def Try.pinned : Pinned := { name := "ytnlfhbohcgjcbaa", sum := "c995a923a4469bd1d65efb8355cbc1a0699a3dd2e3ded2bc901d7f67055b07dc", checked := Try.checked }
namespace Rows
def none {H : Type} : Left H := { results := [], args := [] }

/-- 'diwanlaw5.TxnForms': WHATEVER THE INPUT: true; the input reads as it did. -/
def txnFormsSpec : ChangeSpec := { name := "txnForms", fn := fun _ => fun
  | [] => { results := [.lit (.bool true)], args := [] }
  | _ => none }
def txnFormsRow : OpenClaim := { program := "ytnlfhbohcgjcbaa", sum := "c995a923a4469bd1d65efb8355cbc1a0699a3dd2e3ded2bc901d7f67055b07dc", func := "diwan/diwanlaw5.TxnForms", spec := "txnForms", unfollowed := true, recurses := true, apart := false }
def TxnFormsSaid : Prop := txnFormsRow.holds Try.pinned (OpenSpec.ofChange txnFormsSpec)

/-- ITS FALSE NEIGHBOUR: 'it returns false'. Refute it at one input. -/
def txnFormsWrong : ChangeSpec := { name := "txnForms", fn := fun _ => fun
  | [] => { results := [.lit (.bool false)], args := [] }
  | _ => none }
def TxnFormsWrongFalsely : Prop := txnFormsRow.holds Try.pinned (OpenSpec.ofChange txnFormsWrong)

/-- 'diwanlaw5.TxnTouch': WHATEVER THE INPUT: true; the input reads as it did. -/
def txnTouchSpec : ChangeSpec := { name := "txnTouch", fn := fun _ => fun
  | [d1, d2] => { results := [.lit (.bool true)], args := [d1, d2] }
  | _ => none }
def txnTouchRow : OpenClaim := { program := "ytnlfhbohcgjcbaa", sum := "c995a923a4469bd1d65efb8355cbc1a0699a3dd2e3ded2bc901d7f67055b07dc", func := "diwan/diwanlaw5.TxnTouch", spec := "txnTouch", unfollowed := true, recurses := true, apart := false }
def TxnTouchSaid : Prop := txnTouchRow.holds Try.pinned (OpenSpec.ofChange txnTouchSpec)

/-- ITS FALSE NEIGHBOUR: 'it returns false'. Refute it at one input. -/
def txnTouchWrong : ChangeSpec := { name := "txnTouch", fn := fun _ => fun
  | [d1, d2] => { results := [.lit (.bool false)], args := [d1, d2] }
  | _ => none }
def TxnTouchWrongFalsely : Prop := txnTouchRow.holds Try.pinned (OpenSpec.ofChange txnTouchWrong)

/-- 'diwanlaw5.TxnApart': WHATEVER THE INPUT: true; the input reads as it did. -/
def txnApartSpec : ChangeSpec := { name := "txnApart", fn := fun _ => fun
  | [d1, d2] => { results := [.lit (.bool true)], args := [d1, d2] }
  | _ => none }
def txnApartRow : OpenClaim := { program := "ytnlfhbohcgjcbaa", sum := "c995a923a4469bd1d65efb8355cbc1a0699a3dd2e3ded2bc901d7f67055b07dc", func := "diwan/diwanlaw5.TxnApart", spec := "txnApart", unfollowed := true, recurses := true, apart := false }
def TxnApartSaid : Prop := txnApartRow.holds Try.pinned (OpenSpec.ofChange txnApartSpec)

/-- ITS FALSE NEIGHBOUR: 'it returns false'. Refute it at one input. -/
def txnApartWrong : ChangeSpec := { name := "txnApart", fn := fun _ => fun
  | [d1, d2] => { results := [.lit (.bool false)], args := [d1, d2] }
  | _ => none }
def TxnApartWrongFalsely : Prop := txnApartRow.holds Try.pinned (OpenSpec.ofChange txnApartWrong)

/-- 'diwanlaw21.BitsAll': WHATEVER THE INPUT: true; the input reads as it did. -/
def bitsAllSpec : ChangeSpec := { name := "bitsAll", fn := fun _ => fun
  | [d1, d2, d3, d4] => { results := [.lit (.bool true)], args := [d1, d2, d3, d4] }
  | _ => none }
def bitsAllRow : OpenClaim := { program := "ytnlfhbohcgjcbaa", sum := "c995a923a4469bd1d65efb8355cbc1a0699a3dd2e3ded2bc901d7f67055b07dc", func := "diwan/diwanlaw21.BitsAll", spec := "bitsAll", inPlace := ["slices.overlaps[diwan/bits.Note]"], unfollowed := true, recurses := true, apart := false }
def BitsAllSaid : Prop := bitsAllRow.holds Try.pinned (OpenSpec.ofChange bitsAllSpec)

/-- ITS FALSE NEIGHBOUR: 'it returns false'. Refute it at one input. -/
def bitsAllWrong : ChangeSpec := { name := "bitsAll", fn := fun _ => fun
  | [d1, d2, d3, d4] => { results := [.lit (.bool false)], args := [d1, d2, d3, d4] }
  | _ => none }
def BitsAllWrongFalsely : Prop := bitsAllRow.holds Try.pinned (OpenSpec.ofChange bitsAllWrong)

/-- 'diwanlaw21.BitsStay': WHATEVER THE INPUT: true; the input reads as it did. -/
def bitsStaySpec : ChangeSpec := { name := "bitsStay", fn := fun _ => fun
  | [d1, d2, d3] => { results := [.lit (.bool true)], args := [d1, d2, d3] }
  | _ => none }
def bitsStayRow : OpenClaim := { program := "ytnlfhbohcgjcbaa", sum := "c995a923a4469bd1d65efb8355cbc1a0699a3dd2e3ded2bc901d7f67055b07dc", func := "diwan/diwanlaw21.BitsStay", spec := "bitsStay", inPlace := ["slices.overlaps[diwan/bits.Note]"], unfollowed := true, recurses := true, apart := false }
def BitsStaySaid : Prop := bitsStayRow.holds Try.pinned (OpenSpec.ofChange bitsStaySpec)

/-- ITS FALSE NEIGHBOUR: 'it returns false'. Refute it at one input. -/
def bitsStayWrong : ChangeSpec := { name := "bitsStay", fn := fun _ => fun
  | [d1, d2, d3] => { results := [.lit (.bool false)], args := [d1, d2, d3] }
  | _ => none }
def BitsStayWrongFalsely : Prop := bitsStayRow.holds Try.pinned (OpenSpec.ofChange bitsStayWrong)

/-- 'diwanlaw21.BitsForms': WHATEVER THE INPUT: true; the input reads as it did. -/
def bitsFormsSpec : ChangeSpec := { name := "bitsForms", fn := fun _ => fun
  | [] => { results := [.lit (.bool true)], args := [] }
  | _ => none }
def bitsFormsRow : OpenClaim := { program := "ytnlfhbohcgjcbaa", sum := "c995a923a4469bd1d65efb8355cbc1a0699a3dd2e3ded2bc901d7f67055b07dc", func := "diwan/diwanlaw21.BitsForms", spec := "bitsForms", inPlace := ["slices.overlaps[diwan/bits.Note]"], unfollowed := true, recurses := true, apart := false }
def BitsFormsSaid : Prop := bitsFormsRow.holds Try.pinned (OpenSpec.ofChange bitsFormsSpec)

/-- ITS FALSE NEIGHBOUR: 'it returns false'. Refute it at one input. -/
def bitsFormsWrong : ChangeSpec := { name := "bitsForms", fn := fun _ => fun
  | [] => { results := [.lit (.bool false)], args := [] }
  | _ => none }
def BitsFormsWrongFalsely : Prop := bitsFormsRow.holds Try.pinned (OpenSpec.ofChange bitsFormsWrong)

/-- 'diwanlaw22.LookAll': WHATEVER THE INPUT: true; the input reads as it did. -/
def lookAllSpec : ChangeSpec := { name := "lookAll", fn := fun _ => fun
  | [d1, d2, d3, d4] => { results := [.lit (.bool true)], args := [d1, d2, d3, d4] }
  | _ => none }
def lookAllRow : OpenClaim := { program := "ytnlfhbohcgjcbaa", sum := "c995a923a4469bd1d65efb8355cbc1a0699a3dd2e3ded2bc901d7f67055b07dc", func := "diwan/diwanlaw22.LookAll", spec := "lookAll", unfollowed := true, recurses := true, apart := false }
def LookAllSaid : Prop := lookAllRow.holds Try.pinned (OpenSpec.ofChange lookAllSpec)

/-- ITS FALSE NEIGHBOUR: 'it returns false'. Refute it at one input. -/
def lookAllWrong : ChangeSpec := { name := "lookAll", fn := fun _ => fun
  | [d1, d2, d3, d4] => { results := [.lit (.bool false)], args := [d1, d2, d3, d4] }
  | _ => none }
def LookAllWrongFalsely : Prop := lookAllRow.holds Try.pinned (OpenSpec.ofChange lookAllWrong)

/-- 'diwanlaw22.LookWhole': WHATEVER THE INPUT: true; the input reads as it did. -/
def lookWholeSpec : ChangeSpec := { name := "lookWhole", fn := fun _ => fun
  | [d1, d2, d3, d4] => { results := [.lit (.bool true)], args := [d1, d2, d3, d4] }
  | _ => none }
def lookWholeRow : OpenClaim := { program := "ytnlfhbohcgjcbaa", sum := "c995a923a4469bd1d65efb8355cbc1a0699a3dd2e3ded2bc901d7f67055b07dc", func := "diwan/diwanlaw22.LookWhole", spec := "lookWhole", unfollowed := true, recurses := true, apart := false }
def LookWholeSaid : Prop := lookWholeRow.holds Try.pinned (OpenSpec.ofChange lookWholeSpec)

/-- ITS FALSE NEIGHBOUR: 'it returns false'. Refute it at one input. -/
def lookWholeWrong : ChangeSpec := { name := "lookWhole", fn := fun _ => fun
  | [d1, d2, d3, d4] => { results := [.lit (.bool false)], args := [d1, d2, d3, d4] }
  | _ => none }
def LookWholeWrongFalsely : Prop := lookWholeRow.holds Try.pinned (OpenSpec.ofChange lookWholeWrong)

/-- 'diwanlaw22.LookJoin': WHATEVER THE INPUT: true; the input reads as it did. -/
def lookJoinSpec : ChangeSpec := { name := "lookJoin", fn := fun _ => fun
  | [d] => { results := [.lit (.bool true)], args := [d] }
  | _ => none }
def lookJoinRow : OpenClaim := { program := "ytnlfhbohcgjcbaa", sum := "c995a923a4469bd1d65efb8355cbc1a0699a3dd2e3ded2bc901d7f67055b07dc", func := "diwan/diwanlaw22.LookJoin", spec := "lookJoin", unfollowed := true, recurses := true, apart := false }
def LookJoinSaid : Prop := lookJoinRow.holds Try.pinned (OpenSpec.ofChange lookJoinSpec)

/-- ITS FALSE NEIGHBOUR: 'it returns false'. Refute it at one input. -/
def lookJoinWrong : ChangeSpec := { name := "lookJoin", fn := fun _ => fun
  | [d] => { results := [.lit (.bool false)], args := [d] }
  | _ => none }
def LookJoinWrongFalsely : Prop := lookJoinRow.holds Try.pinned (OpenSpec.ofChange lookJoinWrong)

/-- 'diwanlaw22.LookForms': WHATEVER THE INPUT: true; the input reads as it did. -/
def lookFormsSpec : ChangeSpec := { name := "lookForms", fn := fun _ => fun
  | [] => { results := [.lit (.bool true)], args := [] }
  | _ => none }
def lookFormsRow : OpenClaim := { program := "ytnlfhbohcgjcbaa", sum := "c995a923a4469bd1d65efb8355cbc1a0699a3dd2e3ded2bc901d7f67055b07dc", func := "diwan/diwanlaw22.LookForms", spec := "lookForms", unfollowed := true, recurses := true, apart := false }
def LookFormsSaid : Prop := lookFormsRow.holds Try.pinned (OpenSpec.ofChange lookFormsSpec)

/-- ITS FALSE NEIGHBOUR: 'it returns false'. Refute it at one input. -/
def lookFormsWrong : ChangeSpec := { name := "lookForms", fn := fun _ => fun
  | [] => { results := [.lit (.bool false)], args := [] }
  | _ => none }
def LookFormsWrongFalsely : Prop := lookFormsRow.holds Try.pinned (OpenSpec.ofChange lookFormsWrong)

/-- 'diwanlaw23.CoordBuilds': WHATEVER THE INPUT: true; the input reads as it did. -/
def coordBuildsSpec : ChangeSpec := { name := "coordBuilds", fn := fun _ => fun
  | [d1, d2, d3] => { results := [.lit (.bool true)], args := [d1, d2, d3] }
  | _ => none }
def coordBuildsRow : OpenClaim := { program := "ytnlfhbohcgjcbaa", sum := "c995a923a4469bd1d65efb8355cbc1a0699a3dd2e3ded2bc901d7f67055b07dc", func := "diwan/diwanlaw23.CoordBuilds", spec := "coordBuilds", unfollowed := true, recurses := true, apart := false }
def CoordBuildsSaid : Prop := coordBuildsRow.holds Try.pinned (OpenSpec.ofChange coordBuildsSpec)

/-- ITS FALSE NEIGHBOUR: 'it returns false'. Refute it at one input. -/
def coordBuildsWrong : ChangeSpec := { name := "coordBuilds", fn := fun _ => fun
  | [d1, d2, d3] => { results := [.lit (.bool false)], args := [d1, d2, d3] }
  | _ => none }
def CoordBuildsWrongFalsely : Prop := coordBuildsRow.holds Try.pinned (OpenSpec.ofChange coordBuildsWrong)

/-- 'diwanlaw23.CoordForms': WHATEVER THE INPUT: true; the input reads as it did. -/
def coordFormsSpec : ChangeSpec := { name := "coordForms", fn := fun _ => fun
  | [] => { results := [.lit (.bool true)], args := [] }
  | _ => none }
def coordFormsRow : OpenClaim := { program := "ytnlfhbohcgjcbaa", sum := "c995a923a4469bd1d65efb8355cbc1a0699a3dd2e3ded2bc901d7f67055b07dc", func := "diwan/diwanlaw23.CoordForms", spec := "coordForms", unfollowed := true, recurses := true, apart := false }
def CoordFormsSaid : Prop := coordFormsRow.holds Try.pinned (OpenSpec.ofChange coordFormsSpec)

/-- ITS FALSE NEIGHBOUR: 'it returns false'. Refute it at one input. -/
def coordFormsWrong : ChangeSpec := { name := "coordForms", fn := fun _ => fun
  | [] => { results := [.lit (.bool false)], args := [] }
  | _ => none }
def CoordFormsWrongFalsely : Prop := coordFormsRow.holds Try.pinned (OpenSpec.ofChange coordFormsWrong)

/-- 'diwanlaw23.CoordOrder': WHATEVER THE INPUT: true; the input reads as it did. -/
def coordOrderSpec : ChangeSpec := { name := "coordOrder", fn := fun _ => fun
  | [d1, d2, d3, d4] => { results := [.lit (.bool true)], args := [d1, d2, d3, d4] }
  | _ => none }
def coordOrderRow : OpenClaim := { program := "ytnlfhbohcgjcbaa", sum := "c995a923a4469bd1d65efb8355cbc1a0699a3dd2e3ded2bc901d7f67055b07dc", func := "diwan/diwanlaw23.CoordOrder", spec := "coordOrder", unfollowed := true, recurses := true, apart := false }
def CoordOrderSaid : Prop := coordOrderRow.holds Try.pinned (OpenSpec.ofChange coordOrderSpec)

/-- ITS FALSE NEIGHBOUR: 'it returns false'. Refute it at one input. -/
def coordOrderWrong : ChangeSpec := { name := "coordOrder", fn := fun _ => fun
  | [d1, d2, d3, d4] => { results := [.lit (.bool false)], args := [d1, d2, d3, d4] }
  | _ => none }
def CoordOrderWrongFalsely : Prop := coordOrderRow.holds Try.pinned (OpenSpec.ofChange coordOrderWrong)

/-- 'diwanlaw23.CoordBumps': WHATEVER THE INPUT: true; the input reads as it did. -/
def coordBumpsSpec : ChangeSpec := { name := "coordBumps", fn := fun _ => fun
  | [d1, d2, d3] => { results := [.lit (.bool true)], args := [d1, d2, d3] }
  | _ => none }
def coordBumpsRow : OpenClaim := { program := "ytnlfhbohcgjcbaa", sum := "c995a923a4469bd1d65efb8355cbc1a0699a3dd2e3ded2bc901d7f67055b07dc", func := "diwan/diwanlaw23.CoordBumps", spec := "coordBumps", unfollowed := true, recurses := true, apart := false }
def CoordBumpsSaid : Prop := coordBumpsRow.holds Try.pinned (OpenSpec.ofChange coordBumpsSpec)

/-- ITS FALSE NEIGHBOUR: 'it returns false'. Refute it at one input. -/
def coordBumpsWrong : ChangeSpec := { name := "coordBumps", fn := fun _ => fun
  | [d1, d2, d3] => { results := [.lit (.bool false)], args := [d1, d2, d3] }
  | _ => none }
def CoordBumpsWrongFalsely : Prop := coordBumpsRow.holds Try.pinned (OpenSpec.ofChange coordBumpsWrong)

/- THE SECOND FORM. 'bulk': how many values and letters a reading holds, each counted each time it is reached (what is shared counts as often as it is met; a slice's spare places count too). A statement '..UptoSaid' is the law's where the arguments, and the package variables that the reading takes, are together of bulk at most 1048576: NARROWER than '..Said'. Prove '..Said' where nothing that the law and all that it calls make is longer than what came in: it says more and counts as full. Else prove '..UptoSaid'. A law counts once. -/
mutual
def uptoBulk {H : Type} : DataW H → Nat
  | .lit (.string bytes) => bytes.length + 1
  | .lit _ => 1
  | .nil => 1
  | .ptr d => uptoBulk d + 1
  | .slice elems spare => uptoBulkAll elems + uptoBulkAll spare + 1
  | .agg parts => uptoBulkAll parts + 1
  | .iface _ d => uptoBulk d + 1
  | .map entries => uptoBulkEntries entries + 1
  | .held _ => 1
def uptoBulkAll {H : Type} : List (DataW H) → Nat
  | [] => 0
  | d :: r => uptoBulk d + uptoBulkAll r
def uptoBulkEntries {H : Type} : List (Lit × DataW H) → Nat
  | [] => 0
  | x :: r => uptoBulkEntry x + uptoBulkEntries r
def uptoBulkEntry {H : Type} : Lit × DataW H → Nat
  | (.string bytes, d) => bytes.length + uptoBulk d + 1
  | (_, d) => uptoBulk d + 1
 end
def uptoSmall : (H : Type) → List (DataW H) → Bool := fun _ ds => decide (uptoBulkAll ds ≤ 1048576)
def OpenSpec.upto (s : _root_.Go.ChangeSpec) : _root_.Go.OpenSpec := { _root_.Go.OpenSpec.ofChange s with cond := some uptoSmall }

/-- 'diwanlaw5.TxnForms', WHERE WHAT IT READS IS OF BULK AT MOST 1048576: true; the input reads as it did. -/
def txnFormsUptoRow : OpenClaim := { program := "ytnlfhbohcgjcbaa", sum := "c995a923a4469bd1d65efb8355cbc1a0699a3dd2e3ded2bc901d7f67055b07dc", func := "diwan/diwanlaw5.TxnForms", spec := "txnForms", unfollowed := true, recurses := true, apart := false, narrowed := true }
def TxnFormsUptoSaid : Prop := txnFormsUptoRow.holds Try.pinned (OpenSpec.upto txnFormsSpec)

/-- 'diwanlaw5.TxnTouch', WHERE WHAT IT READS IS OF BULK AT MOST 1048576: true; the input reads as it did. -/
def txnTouchUptoRow : OpenClaim := { program := "ytnlfhbohcgjcbaa", sum := "c995a923a4469bd1d65efb8355cbc1a0699a3dd2e3ded2bc901d7f67055b07dc", func := "diwan/diwanlaw5.TxnTouch", spec := "txnTouch", unfollowed := true, recurses := true, apart := false, narrowed := true }
def TxnTouchUptoSaid : Prop := txnTouchUptoRow.holds Try.pinned (OpenSpec.upto txnTouchSpec)

/-- 'diwanlaw5.TxnApart', WHERE WHAT IT READS IS OF BULK AT MOST 1048576: true; the input reads as it did. -/
def txnApartUptoRow : OpenClaim := { program := "ytnlfhbohcgjcbaa", sum := "c995a923a4469bd1d65efb8355cbc1a0699a3dd2e3ded2bc901d7f67055b07dc", func := "diwan/diwanlaw5.TxnApart", spec := "txnApart", unfollowed := true, recurses := true, apart := false, narrowed := true }
def TxnApartUptoSaid : Prop := txnApartUptoRow.holds Try.pinned (OpenSpec.upto txnApartSpec)

/-- 'diwanlaw21.BitsAll', WHERE WHAT IT READS IS OF BULK AT MOST 1048576: true; the input reads as it did. -/
def bitsAllUptoRow : OpenClaim := { program := "ytnlfhbohcgjcbaa", sum := "c995a923a4469bd1d65efb8355cbc1a0699a3dd2e3ded2bc901d7f67055b07dc", func := "diwan/diwanlaw21.BitsAll", spec := "bitsAll", inPlace := ["slices.overlaps[diwan/bits.Note]"], unfollowed := true, recurses := true, apart := false, narrowed := true }
def BitsAllUptoSaid : Prop := bitsAllUptoRow.holds Try.pinned (OpenSpec.upto bitsAllSpec)

/-- 'diwanlaw21.BitsStay', WHERE WHAT IT READS IS OF BULK AT MOST 1048576: true; the input reads as it did. -/
def bitsStayUptoRow : OpenClaim := { program := "ytnlfhbohcgjcbaa", sum := "c995a923a4469bd1d65efb8355cbc1a0699a3dd2e3ded2bc901d7f67055b07dc", func := "diwan/diwanlaw21.BitsStay", spec := "bitsStay", inPlace := ["slices.overlaps[diwan/bits.Note]"], unfollowed := true, recurses := true, apart := false, narrowed := true }
def BitsStayUptoSaid : Prop := bitsStayUptoRow.holds Try.pinned (OpenSpec.upto bitsStaySpec)

/-- 'diwanlaw21.BitsForms', WHERE WHAT IT READS IS OF BULK AT MOST 1048576: true; the input reads as it did. -/
def bitsFormsUptoRow : OpenClaim := { program := "ytnlfhbohcgjcbaa", sum := "c995a923a4469bd1d65efb8355cbc1a0699a3dd2e3ded2bc901d7f67055b07dc", func := "diwan/diwanlaw21.BitsForms", spec := "bitsForms", inPlace := ["slices.overlaps[diwan/bits.Note]"], unfollowed := true, recurses := true, apart := false, narrowed := true }
def BitsFormsUptoSaid : Prop := bitsFormsUptoRow.holds Try.pinned (OpenSpec.upto bitsFormsSpec)

/-- 'diwanlaw22.LookAll', WHERE WHAT IT READS IS OF BULK AT MOST 1048576: true; the input reads as it did. -/
def lookAllUptoRow : OpenClaim := { program := "ytnlfhbohcgjcbaa", sum := "c995a923a4469bd1d65efb8355cbc1a0699a3dd2e3ded2bc901d7f67055b07dc", func := "diwan/diwanlaw22.LookAll", spec := "lookAll", unfollowed := true, recurses := true, apart := false, narrowed := true }
def LookAllUptoSaid : Prop := lookAllUptoRow.holds Try.pinned (OpenSpec.upto lookAllSpec)

/-- 'diwanlaw22.LookWhole', WHERE WHAT IT READS IS OF BULK AT MOST 1048576: true; the input reads as it did. -/
def lookWholeUptoRow : OpenClaim := { program := "ytnlfhbohcgjcbaa", sum := "c995a923a4469bd1d65efb8355cbc1a0699a3dd2e3ded2bc901d7f67055b07dc", func := "diwan/diwanlaw22.LookWhole", spec := "lookWhole", unfollowed := true, recurses := true, apart := false, narrowed := true }
def LookWholeUptoSaid : Prop := lookWholeUptoRow.holds Try.pinned (OpenSpec.upto lookWholeSpec)

/-- 'diwanlaw22.LookJoin', WHERE WHAT IT READS IS OF BULK AT MOST 1048576: true; the input reads as it did. -/
def lookJoinUptoRow : OpenClaim := { program := "ytnlfhbohcgjcbaa", sum := "c995a923a4469bd1d65efb8355cbc1a0699a3dd2e3ded2bc901d7f67055b07dc", func := "diwan/diwanlaw22.LookJoin", spec := "lookJoin", unfollowed := true, recurses := true, apart := false, narrowed := true }
def LookJoinUptoSaid : Prop := lookJoinUptoRow.holds Try.pinned (OpenSpec.upto lookJoinSpec)

/-- 'diwanlaw22.LookForms', WHERE WHAT IT READS IS OF BULK AT MOST 1048576: true; the input reads as it did. -/
def lookFormsUptoRow : OpenClaim := { program := "ytnlfhbohcgjcbaa", sum := "c995a923a4469bd1d65efb8355cbc1a0699a3dd2e3ded2bc901d7f67055b07dc", func := "diwan/diwanlaw22.LookForms", spec := "lookForms", unfollowed := true, recurses := true, apart := false, narrowed := true }
def LookFormsUptoSaid : Prop := lookFormsUptoRow.holds Try.pinned (OpenSpec.upto lookFormsSpec)

/-- 'diwanlaw23.CoordBuilds', WHERE WHAT IT READS IS OF BULK AT MOST 1048576: true; the input reads as it did. -/
def coordBuildsUptoRow : OpenClaim := { program := "ytnlfhbohcgjcbaa", sum := "c995a923a4469bd1d65efb8355cbc1a0699a3dd2e3ded2bc901d7f67055b07dc", func := "diwan/diwanlaw23.CoordBuilds", spec := "coordBuilds", unfollowed := true, recurses := true, apart := false, narrowed := true }
def CoordBuildsUptoSaid : Prop := coordBuildsUptoRow.holds Try.pinned (OpenSpec.upto coordBuildsSpec)

/-- 'diwanlaw23.CoordForms', WHERE WHAT IT READS IS OF BULK AT MOST 1048576: true; the input reads as it did. -/
def coordFormsUptoRow : OpenClaim := { program := "ytnlfhbohcgjcbaa", sum := "c995a923a4469bd1d65efb8355cbc1a0699a3dd2e3ded2bc901d7f67055b07dc", func := "diwan/diwanlaw23.CoordForms", spec := "coordForms", unfollowed := true, recurses := true, apart := false, narrowed := true }
def CoordFormsUptoSaid : Prop := coordFormsUptoRow.holds Try.pinned (OpenSpec.upto coordFormsSpec)

/-- 'diwanlaw23.CoordOrder', WHERE WHAT IT READS IS OF BULK AT MOST 1048576: true; the input reads as it did. -/
def coordOrderUptoRow : OpenClaim := { program := "ytnlfhbohcgjcbaa", sum := "c995a923a4469bd1d65efb8355cbc1a0699a3dd2e3ded2bc901d7f67055b07dc", func := "diwan/diwanlaw23.CoordOrder", spec := "coordOrder", unfollowed := true, recurses := true, apart := false, narrowed := true }
def CoordOrderUptoSaid : Prop := coordOrderUptoRow.holds Try.pinned (OpenSpec.upto coordOrderSpec)

/-- 'diwanlaw23.CoordBumps', WHERE WHAT IT READS IS OF BULK AT MOST 1048576: true; the input reads as it did. -/
def coordBumpsUptoRow : OpenClaim := { program := "ytnlfhbohcgjcbaa", sum := "c995a923a4469bd1d65efb8355cbc1a0699a3dd2e3ded2bc901d7f67055b07dc", func := "diwan/diwanlaw23.CoordBumps", spec := "coordBumps", unfollowed := true, recurses := true, apart := false, narrowed := true }
def CoordBumpsUptoSaid : Prop := coordBumpsUptoRow.holds Try.pinned (OpenSpec.upto coordBumpsSpec)

end Rows
end Go.Proofs.Ytnlfhbohcgjcbaa
