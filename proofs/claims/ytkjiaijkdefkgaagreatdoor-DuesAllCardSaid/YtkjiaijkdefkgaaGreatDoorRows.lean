/-
  NARROWER THAN 'FOR EVERY INPUT', by the rows' own cells (each row's printed sentence says how): ChildTells: laid · ChildTakes: laid · ChildTold: laid · DuesOf: laid · DuesAll: laid · SagaMays: laid · SagaDecided: laid · SagaOrder: laid · SagaStates: laid · SagaOnce: laid.
  DERIVED. THE GIVEN ROWS OF THIS SEAT. 10 by the template 'for every input the law returns true; each argument reads behind the call as it read before'; 0 by the template 'total and deterministic' (their statements: YtkjiaijkdefkgaaGreatDoorTotals.lean).
  GIVEN WITH THE SEED: the statements are not yours to turn. If you find one false, say at which input.
  Laid BY PROGRAM, IN A SANDBOX (cutbox-rows.mjs): the forced cells as the released guide's own fill.sh prints them over the translation 86a6b77c364aa203… (all of the seat's roots in one cut). By AI agents, Wed Nov 11 2026. No macro, syntax, notation, axiom, sorry.
-/
import Derived.Test.YtkjiaijkdefkgaaGreatDoorChecked
import GoSem.PinnedTables
import GoSem.Claim
import GoSem.ClaimJoined
import GoSem.ClaimMapViews
import Derived.JoinedTies
import Derived.KernelRfl
namespace Go.Proofs.YtkjiaijkdefkgaaGreatDoor
/- THE CELL 'sum', in the pinned program and in every row, IS THE sha256 OF THE DUMP (.gsa) THAT YtkjiaijkdefkgaaGreatDoorProg.lean LOADS. Nothing in Lean hashes anything: it is a label: what it is worth is what the hold of that sum in a sandbox is worth. -/
noncomputable def Tryz.pinned : Pinned := { name := "ytkjiaijkdefkgaagreatdoor", sum := "86a6b77c364aa203f530e9a6d5f2f8d58e052c14087b05918a62a52837a6403b", checked := Tryz.checked }
namespace Rows
def none {H : Type} : Left H := { results := [], args := [] }

/- WHAT THE LISTED PACKAGE-LEVEL VARIABLES READ AS WHEN THE CALL BEGINS. Each datum BY PROGRAM (the guide's laid-datum.mjs) off the statement by which the dump's own 'gosem.cut.vars' lays the variable. In a bare row this is a premise. The card (YtkjiaijkdefkgaaGreatDoorCards.lean) ties it to the program's text. -/
def laid_math_bits_deBruijn32tab {H : Type} : DataW H := .agg [.lit (.int .u8 0), .lit (.int .u8 1), .lit (.int .u8 28), .lit (.int .u8 2), .lit (.int .u8 29), .lit (.int .u8 14), .lit (.int .u8 24), .lit (.int .u8 3), .lit (.int .u8 30), .lit (.int .u8 22), .lit (.int .u8 20), .lit (.int .u8 15), .lit (.int .u8 25), .lit (.int .u8 17), .lit (.int .u8 4), .lit (.int .u8 8), .lit (.int .u8 31), .lit (.int .u8 27), .lit (.int .u8 13), .lit (.int .u8 23), .lit (.int .u8 21), .lit (.int .u8 19), .lit (.int .u8 16), .lit (.int .u8 7), .lit (.int .u8 26), .lit (.int .u8 12), .lit (.int .u8 18), .lit (.int .u8 6), .lit (.int .u8 11), .lit (.int .u8 5), .lit (.int .u8 10), .lit (.int .u8 9)]
def laid_math_bits_deBruijn64tab {H : Type} : DataW H := .agg [.lit (.int .u8 0), .lit (.int .u8 1), .lit (.int .u8 56), .lit (.int .u8 2), .lit (.int .u8 57), .lit (.int .u8 49), .lit (.int .u8 28), .lit (.int .u8 3), .lit (.int .u8 61), .lit (.int .u8 58), .lit (.int .u8 42), .lit (.int .u8 50), .lit (.int .u8 38), .lit (.int .u8 29), .lit (.int .u8 17), .lit (.int .u8 4), .lit (.int .u8 62), .lit (.int .u8 47), .lit (.int .u8 59), .lit (.int .u8 36), .lit (.int .u8 45), .lit (.int .u8 43), .lit (.int .u8 51), .lit (.int .u8 22), .lit (.int .u8 53), .lit (.int .u8 39), .lit (.int .u8 33), .lit (.int .u8 30), .lit (.int .u8 24), .lit (.int .u8 18), .lit (.int .u8 12), .lit (.int .u8 5), .lit (.int .u8 63), .lit (.int .u8 55), .lit (.int .u8 48), .lit (.int .u8 27), .lit (.int .u8 60), .lit (.int .u8 41), .lit (.int .u8 37), .lit (.int .u8 16), .lit (.int .u8 46), .lit (.int .u8 35), .lit (.int .u8 44), .lit (.int .u8 21), .lit (.int .u8 52), .lit (.int .u8 32), .lit (.int .u8 23), .lit (.int .u8 11), .lit (.int .u8 54), .lit (.int .u8 26), .lit (.int .u8 40), .lit (.int .u8 15), .lit (.int .u8 34), .lit (.int .u8 20), .lit (.int .u8 31), .lit (.int .u8 10), .lit (.int .u8 25), .lit (.int .u8 14), .lit (.int .u8 19), .lit (.int .u8 9), .lit (.int .u8 13), .lit (.int .u8 8), .lit (.int .u8 7), .lit (.int .u8 6)]
def laid_internal_strconv_uint64pow10 {H : Type} : DataW H := .agg [.lit (.int .u64 1), .lit (.int .u64 10), .lit (.int .u64 100), .lit (.int .u64 1000), .lit (.int .u64 10000), .lit (.int .u64 100000), .lit (.int .u64 1000000), .lit (.int .u64 10000000), .lit (.int .u64 100000000), .lit (.int .u64 1000000000), .lit (.int .u64 10000000000), .lit (.int .u64 100000000000), .lit (.int .u64 1000000000000), .lit (.int .u64 10000000000000), .lit (.int .u64 100000000000000), .lit (.int .u64 1000000000000000), .lit (.int .u64 10000000000000000), .lit (.int .u64 100000000000000000), .lit (.int .u64 1000000000000000000), .lit (.int .u64 10000000000000000000)]
def laid_unicode_utf8_acceptRanges {H : Type} : DataW H := .agg [.agg [.lit (.int .u8 128), .lit (.int .u8 191)], .agg [.lit (.int .u8 160), .lit (.int .u8 191)], .agg [.lit (.int .u8 128), .lit (.int .u8 159)], .agg [.lit (.int .u8 144), .lit (.int .u8 191)], .agg [.lit (.int .u8 128), .lit (.int .u8 143)], .agg [.lit (.int .u8 0), .lit (.int .u8 0)], .agg [.lit (.int .u8 0), .lit (.int .u8 0)], .agg [.lit (.int .u8 0), .lit (.int .u8 0)], .agg [.lit (.int .u8 0), .lit (.int .u8 0)], .agg [.lit (.int .u8 0), .lit (.int .u8 0)], .agg [.lit (.int .u8 0), .lit (.int .u8 0)], .agg [.lit (.int .u8 0), .lit (.int .u8 0)], .agg [.lit (.int .u8 0), .lit (.int .u8 0)], .agg [.lit (.int .u8 0), .lit (.int .u8 0)], .agg [.lit (.int .u8 0), .lit (.int .u8 0)], .agg [.lit (.int .u8 0), .lit (.int .u8 0)]]
/-- One of Go's own tables, pinned by name: the form's constant. -/
def laid_unicode_utf8_first : DataW Unit := Go.Pinned.utf8First

/-- 'ententelaw25.ChildTells': WHATEVER THE INPUT: true; the input reads as it did. -/
def childTellsSpec : ChangeSpec := { name := "childTells", fn := fun _ => fun
  | [d] => { results := [.lit (.bool true)], args := [d] }
  | _ => none }
def childTellsRow : OpenClaim := { program := "ytkjiaijkdefkgaagreatdoor", sum := "86a6b77c364aa203f530e9a6d5f2f8d58e052c14087b05918a62a52837a6403b", func := "entente/ententelaw25.ChildTells", spec := "childTells", inPlace := ["internal/bytealg.abigen_runtime_cmpstring"], unfollowed := true, recurses := true, named := ["internal/strconv.uint64pow10", "math/bits.deBruijn32tab", "math/bits.deBruijn64tab"], apart := false, laid := [("math/bits.deBruijn32tab", laid_math_bits_deBruijn32tab), ("math/bits.deBruijn64tab", laid_math_bits_deBruijn64tab), ("internal/strconv.uint64pow10", laid_internal_strconv_uint64pow10)] }
def ChildTellsSaid : Prop := childTellsRow.holds Tryz.pinned (OpenSpec.ofChange childTellsSpec)

/-- ITS FALSE NEIGHBOUR: 'it returns false'. Refute it at one input. -/
def childTellsWrong : ChangeSpec := { name := "childTells", fn := fun _ => fun
  | [d] => { results := [.lit (.bool false)], args := [d] }
  | _ => none }
def ChildTellsWrongFalsely : Prop := childTellsRow.holds Tryz.pinned (OpenSpec.ofChange childTellsWrong)

/-- 'ententelaw25.ChildTakes': WHATEVER THE INPUT: true; the input reads as it did. -/
def childTakesSpec : ChangeSpec := { name := "childTakes", fn := fun _ => fun
  | [d1, d2] => { results := [.lit (.bool true)], args := [d1, d2] }
  | _ => none }
def childTakesRow : OpenClaim := { program := "ytkjiaijkdefkgaagreatdoor", sum := "86a6b77c364aa203f530e9a6d5f2f8d58e052c14087b05918a62a52837a6403b", func := "entente/ententelaw25.ChildTakes", spec := "childTakes", inPlace := ["internal/bytealg.abigen_runtime_cmpstring"], unfollowed := true, recurses := true, named := ["internal/strconv.uint64pow10", "math/bits.deBruijn32tab", "math/bits.deBruijn64tab"], apart := false, laid := [("math/bits.deBruijn32tab", laid_math_bits_deBruijn32tab), ("math/bits.deBruijn64tab", laid_math_bits_deBruijn64tab), ("internal/strconv.uint64pow10", laid_internal_strconv_uint64pow10)] }
def ChildTakesSaid : Prop := childTakesRow.holds Tryz.pinned (OpenSpec.ofChange childTakesSpec)

/-- ITS FALSE NEIGHBOUR: 'it returns false'. Refute it at one input. -/
def childTakesWrong : ChangeSpec := { name := "childTakes", fn := fun _ => fun
  | [d1, d2] => { results := [.lit (.bool false)], args := [d1, d2] }
  | _ => none }
def ChildTakesWrongFalsely : Prop := childTakesRow.holds Tryz.pinned (OpenSpec.ofChange childTakesWrong)

/-- 'ententelaw25.ChildTold': WHATEVER THE INPUT: true; the input reads as it did. -/
def childToldSpec : ChangeSpec := { name := "childTold", fn := fun _ => fun
  | [d1, d2] => { results := [.lit (.bool true)], args := [d1, d2] }
  | _ => none }
def childToldRow : OpenClaim := { program := "ytkjiaijkdefkgaagreatdoor", sum := "86a6b77c364aa203f530e9a6d5f2f8d58e052c14087b05918a62a52837a6403b", func := "entente/ententelaw25.ChildTold", spec := "childTold", inPlace := ["internal/bytealg.abigen_runtime_cmpstring"], unfollowed := true, recurses := true, named := ["internal/strconv.uint64pow10", "math/bits.deBruijn32tab", "math/bits.deBruijn64tab"], apart := false, laid := [("math/bits.deBruijn32tab", laid_math_bits_deBruijn32tab), ("math/bits.deBruijn64tab", laid_math_bits_deBruijn64tab), ("internal/strconv.uint64pow10", laid_internal_strconv_uint64pow10)] }
def ChildToldSaid : Prop := childToldRow.holds Tryz.pinned (OpenSpec.ofChange childToldSpec)

/-- ITS FALSE NEIGHBOUR: 'it returns false'. Refute it at one input. -/
def childToldWrong : ChangeSpec := { name := "childTold", fn := fun _ => fun
  | [d1, d2] => { results := [.lit (.bool false)], args := [d1, d2] }
  | _ => none }
def ChildToldWrongFalsely : Prop := childToldRow.holds Tryz.pinned (OpenSpec.ofChange childToldWrong)

/-- 'ententelaw27.DuesOf': WHATEVER THE INPUT: true; the input reads as it did. -/
def duesOfSpec : ChangeSpec := { name := "duesOf", fn := fun _ => fun
  | [d1, d2] => { results := [.lit (.bool true)], args := [d1, d2] }
  | _ => none }
def duesOfRow : OpenClaim := { program := "ytkjiaijkdefkgaagreatdoor", sum := "86a6b77c364aa203f530e9a6d5f2f8d58e052c14087b05918a62a52837a6403b", func := "entente/ententelaw27.DuesOf", spec := "duesOf", inPlace := ["internal/bytealg.abigen_runtime_cmpstring"], unfollowed := true, recurses := true, named := ["internal/strconv.uint64pow10", "math/bits.deBruijn32tab", "math/bits.deBruijn64tab"], apart := false, laid := [("math/bits.deBruijn32tab", laid_math_bits_deBruijn32tab), ("math/bits.deBruijn64tab", laid_math_bits_deBruijn64tab), ("internal/strconv.uint64pow10", laid_internal_strconv_uint64pow10)] }
def DuesOfSaid : Prop := duesOfRow.holds Tryz.pinned (OpenSpec.ofChange duesOfSpec)

/-- ITS FALSE NEIGHBOUR: 'it returns false'. Refute it at one input. -/
def duesOfWrong : ChangeSpec := { name := "duesOf", fn := fun _ => fun
  | [d1, d2] => { results := [.lit (.bool false)], args := [d1, d2] }
  | _ => none }
def DuesOfWrongFalsely : Prop := duesOfRow.holds Tryz.pinned (OpenSpec.ofChange duesOfWrong)

/-- 'ententelaw27.DuesAll': WHATEVER THE INPUT: true; the input reads as it did. -/
def duesAllSpec : ChangeSpec := { name := "duesAll", fn := fun _ => fun
  | [d1, d2, d3] => { results := [.lit (.bool true)], args := [d1, d2, d3] }
  | _ => none }
def duesAllRow : OpenClaim := { program := "ytkjiaijkdefkgaagreatdoor", sum := "86a6b77c364aa203f530e9a6d5f2f8d58e052c14087b05918a62a52837a6403b", func := "entente/ententelaw27.DuesAll", spec := "duesAll", inPlace := ["internal/bytealg.abigen_runtime_cmpstring"], unfollowed := true, recurses := true, named := ["internal/strconv.uint64pow10", "math/bits.deBruijn32tab", "math/bits.deBruijn64tab"], apart := false, laid := [("math/bits.deBruijn32tab", laid_math_bits_deBruijn32tab), ("math/bits.deBruijn64tab", laid_math_bits_deBruijn64tab), ("internal/strconv.uint64pow10", laid_internal_strconv_uint64pow10)] }
def DuesAllSaid : Prop := duesAllRow.holds Tryz.pinned (OpenSpec.ofChange duesAllSpec)

/-- ITS FALSE NEIGHBOUR: 'it returns false'. Refute it at one input. -/
def duesAllWrong : ChangeSpec := { name := "duesAll", fn := fun _ => fun
  | [d1, d2, d3] => { results := [.lit (.bool false)], args := [d1, d2, d3] }
  | _ => none }
def DuesAllWrongFalsely : Prop := duesAllRow.holds Tryz.pinned (OpenSpec.ofChange duesAllWrong)

/-- 'ententelaw21.SagaMays': WHATEVER THE INPUT: true; the input reads as it did. -/
def sagaMaysSpec : ChangeSpec := { name := "sagaMays", fn := fun _ => fun
  | [d1, d2] => { results := [.lit (.bool true)], args := [d1, d2] }
  | _ => none }
def sagaMaysRow : OpenClaim := { program := "ytkjiaijkdefkgaagreatdoor", sum := "86a6b77c364aa203f530e9a6d5f2f8d58e052c14087b05918a62a52837a6403b", func := "entente/ententelaw21.SagaMays", spec := "sagaMays", inPlace := ["internal/bytealg.IndexByteString", "internal/bytealg.IndexString"], unfollowed := true, recurses := true, named := ["unicode/utf8.first", "unicode/utf8.acceptRanges", "internal/strconv.uint64pow10", "math/bits.deBruijn32tab", "math/bits.deBruijn64tab", "internal/bytealg.MaxLen"], apart := false, laid := [("math/bits.deBruijn32tab", laid_math_bits_deBruijn32tab), ("math/bits.deBruijn64tab", laid_math_bits_deBruijn64tab), ("internal/strconv.uint64pow10", laid_internal_strconv_uint64pow10), ("unicode/utf8.acceptRanges", laid_unicode_utf8_acceptRanges), ("unicode/utf8.first", laid_unicode_utf8_first)] }
def SagaMaysSaid : Prop := sagaMaysRow.holds Tryz.pinned (OpenSpec.ofChange sagaMaysSpec)

/-- ITS FALSE NEIGHBOUR: 'it returns false'. Refute it at one input. -/
def sagaMaysWrong : ChangeSpec := { name := "sagaMays", fn := fun _ => fun
  | [d1, d2] => { results := [.lit (.bool false)], args := [d1, d2] }
  | _ => none }
def SagaMaysWrongFalsely : Prop := sagaMaysRow.holds Tryz.pinned (OpenSpec.ofChange sagaMaysWrong)

/-- 'ententelaw21.SagaDecided': WHATEVER THE INPUT: true; the input reads as it did. -/
def sagaDecidedSpec : ChangeSpec := { name := "sagaDecided", fn := fun _ => fun
  | [d1, d2] => { results := [.lit (.bool true)], args := [d1, d2] }
  | _ => none }
def sagaDecidedRow : OpenClaim := { program := "ytkjiaijkdefkgaagreatdoor", sum := "86a6b77c364aa203f530e9a6d5f2f8d58e052c14087b05918a62a52837a6403b", func := "entente/ententelaw21.SagaDecided", spec := "sagaDecided", inPlace := ["internal/bytealg.IndexByteString", "internal/bytealg.IndexString"], unfollowed := true, recurses := true, named := ["unicode/utf8.first", "unicode/utf8.acceptRanges", "internal/strconv.uint64pow10", "math/bits.deBruijn32tab", "math/bits.deBruijn64tab", "internal/bytealg.MaxLen"], apart := false, laid := [("math/bits.deBruijn32tab", laid_math_bits_deBruijn32tab), ("math/bits.deBruijn64tab", laid_math_bits_deBruijn64tab), ("internal/strconv.uint64pow10", laid_internal_strconv_uint64pow10), ("unicode/utf8.acceptRanges", laid_unicode_utf8_acceptRanges), ("unicode/utf8.first", laid_unicode_utf8_first)] }
def SagaDecidedSaid : Prop := sagaDecidedRow.holds Tryz.pinned (OpenSpec.ofChange sagaDecidedSpec)

/-- ITS FALSE NEIGHBOUR: 'it returns false'. Refute it at one input. -/
def sagaDecidedWrong : ChangeSpec := { name := "sagaDecided", fn := fun _ => fun
  | [d1, d2] => { results := [.lit (.bool false)], args := [d1, d2] }
  | _ => none }
def SagaDecidedWrongFalsely : Prop := sagaDecidedRow.holds Tryz.pinned (OpenSpec.ofChange sagaDecidedWrong)

/-- 'ententelaw21.SagaOrder': WHATEVER THE INPUT: true; the input reads as it did. -/
def sagaOrderSpec : ChangeSpec := { name := "sagaOrder", fn := fun _ => fun
  | [d1, d2] => { results := [.lit (.bool true)], args := [d1, d2] }
  | _ => none }
def sagaOrderRow : OpenClaim := { program := "ytkjiaijkdefkgaagreatdoor", sum := "86a6b77c364aa203f530e9a6d5f2f8d58e052c14087b05918a62a52837a6403b", func := "entente/ententelaw21.SagaOrder", spec := "sagaOrder", inPlace := ["internal/bytealg.IndexByteString", "internal/bytealg.IndexString"], unfollowed := true, recurses := true, named := ["unicode/utf8.first", "unicode/utf8.acceptRanges", "internal/strconv.uint64pow10", "math/bits.deBruijn32tab", "math/bits.deBruijn64tab", "internal/bytealg.MaxLen"], apart := false, laid := [("math/bits.deBruijn32tab", laid_math_bits_deBruijn32tab), ("math/bits.deBruijn64tab", laid_math_bits_deBruijn64tab), ("internal/strconv.uint64pow10", laid_internal_strconv_uint64pow10), ("unicode/utf8.acceptRanges", laid_unicode_utf8_acceptRanges), ("unicode/utf8.first", laid_unicode_utf8_first)] }
def SagaOrderSaid : Prop := sagaOrderRow.holds Tryz.pinned (OpenSpec.ofChange sagaOrderSpec)

/-- ITS FALSE NEIGHBOUR: 'it returns false'. Refute it at one input. -/
def sagaOrderWrong : ChangeSpec := { name := "sagaOrder", fn := fun _ => fun
  | [d1, d2] => { results := [.lit (.bool false)], args := [d1, d2] }
  | _ => none }
def SagaOrderWrongFalsely : Prop := sagaOrderRow.holds Tryz.pinned (OpenSpec.ofChange sagaOrderWrong)

/-- 'ententelaw21.SagaStates': WHATEVER THE INPUT: true; the input reads as it did. -/
def sagaStatesSpec : ChangeSpec := { name := "sagaStates", fn := fun _ => fun
  | [d1, d2] => { results := [.lit (.bool true)], args := [d1, d2] }
  | _ => none }
def sagaStatesRow : OpenClaim := { program := "ytkjiaijkdefkgaagreatdoor", sum := "86a6b77c364aa203f530e9a6d5f2f8d58e052c14087b05918a62a52837a6403b", func := "entente/ententelaw21.SagaStates", spec := "sagaStates", inPlace := ["internal/bytealg.IndexByteString", "internal/bytealg.IndexString"], unfollowed := true, recurses := true, named := ["unicode/utf8.first", "unicode/utf8.acceptRanges", "internal/strconv.uint64pow10", "math/bits.deBruijn32tab", "math/bits.deBruijn64tab", "internal/bytealg.MaxLen"], apart := false, laid := [("math/bits.deBruijn32tab", laid_math_bits_deBruijn32tab), ("math/bits.deBruijn64tab", laid_math_bits_deBruijn64tab), ("internal/strconv.uint64pow10", laid_internal_strconv_uint64pow10), ("unicode/utf8.acceptRanges", laid_unicode_utf8_acceptRanges), ("unicode/utf8.first", laid_unicode_utf8_first)] }
def SagaStatesSaid : Prop := sagaStatesRow.holds Tryz.pinned (OpenSpec.ofChange sagaStatesSpec)

/-- ITS FALSE NEIGHBOUR: 'it returns false'. Refute it at one input. -/
def sagaStatesWrong : ChangeSpec := { name := "sagaStates", fn := fun _ => fun
  | [d1, d2] => { results := [.lit (.bool false)], args := [d1, d2] }
  | _ => none }
def SagaStatesWrongFalsely : Prop := sagaStatesRow.holds Tryz.pinned (OpenSpec.ofChange sagaStatesWrong)

/-- 'ententelaw21.SagaOnce': WHATEVER THE INPUT: true; the input reads as it did. -/
def sagaOnceSpec : ChangeSpec := { name := "sagaOnce", fn := fun _ => fun
  | [d1, d2] => { results := [.lit (.bool true)], args := [d1, d2] }
  | _ => none }
def sagaOnceRow : OpenClaim := { program := "ytkjiaijkdefkgaagreatdoor", sum := "86a6b77c364aa203f530e9a6d5f2f8d58e052c14087b05918a62a52837a6403b", func := "entente/ententelaw21.SagaOnce", spec := "sagaOnce", inPlace := ["internal/bytealg.IndexByteString", "internal/bytealg.IndexString"], unfollowed := true, recurses := true, named := ["unicode/utf8.first", "unicode/utf8.acceptRanges", "internal/strconv.uint64pow10", "math/bits.deBruijn32tab", "math/bits.deBruijn64tab", "internal/bytealg.MaxLen"], apart := false, laid := [("math/bits.deBruijn32tab", laid_math_bits_deBruijn32tab), ("math/bits.deBruijn64tab", laid_math_bits_deBruijn64tab), ("internal/strconv.uint64pow10", laid_internal_strconv_uint64pow10), ("unicode/utf8.acceptRanges", laid_unicode_utf8_acceptRanges), ("unicode/utf8.first", laid_unicode_utf8_first)] }
def SagaOnceSaid : Prop := sagaOnceRow.holds Tryz.pinned (OpenSpec.ofChange sagaOnceSpec)

/-- ITS FALSE NEIGHBOUR: 'it returns false'. Refute it at one input. -/
def sagaOnceWrong : ChangeSpec := { name := "sagaOnce", fn := fun _ => fun
  | [d1, d2] => { results := [.lit (.bool false)], args := [d1, d2] }
  | _ => none }
def SagaOnceWrongFalsely : Prop := sagaOnceRow.holds Tryz.pinned (OpenSpec.ofChange sagaOnceWrong)

/- THE SECOND FORM. 'bulk': how many values and letters a reading holds, each counted each time it is reached (what is shared counts as often as it is met; a slice's spare places count too). A statement '..UptoSaid' is the law's where the arguments, and the package variables that the reading takes, are together of bulk at most 1048576: NARROWER than '..Said'. Prove '..Said' where nothing that the law and all that it calls make is longer than what came in: it says more and counts as full. Else prove '..UptoSaid'. A law counts once. -/
mutual
def uptoBulk {H : Type} : DataW H → Nat
  | .lit (.string bytes) => bytes.length + 1
  | .lit _ => 1
  | .nil => 1
  | .ptr d => uptoBulk d + 1
  | .slice elems spare => uptoBulkAll elems + uptoBulkAll spare + 1
  | .agg parts => uptoBulkAll parts + 1
  | .iface _ d => uptoBulk d + 1
  | .map entries => uptoBulkEntries entries + 1
  | .held _ => 1
def uptoBulkAll {H : Type} : List (DataW H) → Nat
  | [] => 0
  | d :: r => uptoBulk d + uptoBulkAll r
def uptoBulkEntries {H : Type} : List (Lit × DataW H) → Nat
  | [] => 0
  | x :: r => uptoBulkEntry x + uptoBulkEntries r
def uptoBulkEntry {H : Type} : Lit × DataW H → Nat
  | (.string bytes, d) => bytes.length + uptoBulk d + 1
  | (_, d) => uptoBulk d + 1
 end
def uptoSmall : (H : Type) → List (DataW H) → Bool := fun _ ds => decide (uptoBulkAll ds ≤ 1048576)
def OpenSpec.upto (s : _root_.Go.ChangeSpec) : _root_.Go.OpenSpec := { _root_.Go.OpenSpec.ofChange s with cond := some uptoSmall }

/-- 'ententelaw25.ChildTells', WHERE WHAT IT READS IS OF BULK AT MOST 1048576: true; the input reads as it did. -/
def childTellsUptoRow : OpenClaim := { program := "ytkjiaijkdefkgaagreatdoor", sum := "86a6b77c364aa203f530e9a6d5f2f8d58e052c14087b05918a62a52837a6403b", func := "entente/ententelaw25.ChildTells", spec := "childTells", inPlace := ["internal/bytealg.abigen_runtime_cmpstring"], unfollowed := true, recurses := true, named := ["internal/strconv.uint64pow10", "math/bits.deBruijn32tab", "math/bits.deBruijn64tab"], apart := false, laid := [("math/bits.deBruijn32tab", laid_math_bits_deBruijn32tab), ("math/bits.deBruijn64tab", laid_math_bits_deBruijn64tab), ("internal/strconv.uint64pow10", laid_internal_strconv_uint64pow10)], narrowed := true }
def ChildTellsUptoSaid : Prop := childTellsUptoRow.holds Tryz.pinned (OpenSpec.upto childTellsSpec)

/-- 'ententelaw25.ChildTakes', WHERE WHAT IT READS IS OF BULK AT MOST 1048576: true; the input reads as it did. -/
def childTakesUptoRow : OpenClaim := { program := "ytkjiaijkdefkgaagreatdoor", sum := "86a6b77c364aa203f530e9a6d5f2f8d58e052c14087b05918a62a52837a6403b", func := "entente/ententelaw25.ChildTakes", spec := "childTakes", inPlace := ["internal/bytealg.abigen_runtime_cmpstring"], unfollowed := true, recurses := true, named := ["internal/strconv.uint64pow10", "math/bits.deBruijn32tab", "math/bits.deBruijn64tab"], apart := false, laid := [("math/bits.deBruijn32tab", laid_math_bits_deBruijn32tab), ("math/bits.deBruijn64tab", laid_math_bits_deBruijn64tab), ("internal/strconv.uint64pow10", laid_internal_strconv_uint64pow10)], narrowed := true }
def ChildTakesUptoSaid : Prop := childTakesUptoRow.holds Tryz.pinned (OpenSpec.upto childTakesSpec)

/-- 'ententelaw25.ChildTold', WHERE WHAT IT READS IS OF BULK AT MOST 1048576: true; the input reads as it did. -/
def childToldUptoRow : OpenClaim := { program := "ytkjiaijkdefkgaagreatdoor", sum := "86a6b77c364aa203f530e9a6d5f2f8d58e052c14087b05918a62a52837a6403b", func := "entente/ententelaw25.ChildTold", spec := "childTold", inPlace := ["internal/bytealg.abigen_runtime_cmpstring"], unfollowed := true, recurses := true, named := ["internal/strconv.uint64pow10", "math/bits.deBruijn32tab", "math/bits.deBruijn64tab"], apart := false, laid := [("math/bits.deBruijn32tab", laid_math_bits_deBruijn32tab), ("math/bits.deBruijn64tab", laid_math_bits_deBruijn64tab), ("internal/strconv.uint64pow10", laid_internal_strconv_uint64pow10)], narrowed := true }
def ChildToldUptoSaid : Prop := childToldUptoRow.holds Tryz.pinned (OpenSpec.upto childToldSpec)

/-- 'ententelaw27.DuesOf', WHERE WHAT IT READS IS OF BULK AT MOST 1048576: true; the input reads as it did. -/
def duesOfUptoRow : OpenClaim := { program := "ytkjiaijkdefkgaagreatdoor", sum := "86a6b77c364aa203f530e9a6d5f2f8d58e052c14087b05918a62a52837a6403b", func := "entente/ententelaw27.DuesOf", spec := "duesOf", inPlace := ["internal/bytealg.abigen_runtime_cmpstring"], unfollowed := true, recurses := true, named := ["internal/strconv.uint64pow10", "math/bits.deBruijn32tab", "math/bits.deBruijn64tab"], apart := false, laid := [("math/bits.deBruijn32tab", laid_math_bits_deBruijn32tab), ("math/bits.deBruijn64tab", laid_math_bits_deBruijn64tab), ("internal/strconv.uint64pow10", laid_internal_strconv_uint64pow10)], narrowed := true }
def DuesOfUptoSaid : Prop := duesOfUptoRow.holds Tryz.pinned (OpenSpec.upto duesOfSpec)

/-- 'ententelaw27.DuesAll', WHERE WHAT IT READS IS OF BULK AT MOST 1048576: true; the input reads as it did. -/
def duesAllUptoRow : OpenClaim := { program := "ytkjiaijkdefkgaagreatdoor", sum := "86a6b77c364aa203f530e9a6d5f2f8d58e052c14087b05918a62a52837a6403b", func := "entente/ententelaw27.DuesAll", spec := "duesAll", inPlace := ["internal/bytealg.abigen_runtime_cmpstring"], unfollowed := true, recurses := true, named := ["internal/strconv.uint64pow10", "math/bits.deBruijn32tab", "math/bits.deBruijn64tab"], apart := false, laid := [("math/bits.deBruijn32tab", laid_math_bits_deBruijn32tab), ("math/bits.deBruijn64tab", laid_math_bits_deBruijn64tab), ("internal/strconv.uint64pow10", laid_internal_strconv_uint64pow10)], narrowed := true }
def DuesAllUptoSaid : Prop := duesAllUptoRow.holds Tryz.pinned (OpenSpec.upto duesAllSpec)

/-- 'ententelaw21.SagaMays', WHERE WHAT IT READS IS OF BULK AT MOST 1048576: true; the input reads as it did. -/
def sagaMaysUptoRow : OpenClaim := { program := "ytkjiaijkdefkgaagreatdoor", sum := "86a6b77c364aa203f530e9a6d5f2f8d58e052c14087b05918a62a52837a6403b", func := "entente/ententelaw21.SagaMays", spec := "sagaMays", inPlace := ["internal/bytealg.IndexByteString", "internal/bytealg.IndexString"], unfollowed := true, recurses := true, named := ["unicode/utf8.first", "unicode/utf8.acceptRanges", "internal/strconv.uint64pow10", "math/bits.deBruijn32tab", "math/bits.deBruijn64tab", "internal/bytealg.MaxLen"], apart := false, laid := [("math/bits.deBruijn32tab", laid_math_bits_deBruijn32tab), ("math/bits.deBruijn64tab", laid_math_bits_deBruijn64tab), ("internal/strconv.uint64pow10", laid_internal_strconv_uint64pow10), ("unicode/utf8.acceptRanges", laid_unicode_utf8_acceptRanges), ("unicode/utf8.first", laid_unicode_utf8_first)], narrowed := true }
def SagaMaysUptoSaid : Prop := sagaMaysUptoRow.holds Tryz.pinned (OpenSpec.upto sagaMaysSpec)

/-- 'ententelaw21.SagaDecided', WHERE WHAT IT READS IS OF BULK AT MOST 1048576: true; the input reads as it did. -/
def sagaDecidedUptoRow : OpenClaim := { program := "ytkjiaijkdefkgaagreatdoor", sum := "86a6b77c364aa203f530e9a6d5f2f8d58e052c14087b05918a62a52837a6403b", func := "entente/ententelaw21.SagaDecided", spec := "sagaDecided", inPlace := ["internal/bytealg.IndexByteString", "internal/bytealg.IndexString"], unfollowed := true, recurses := true, named := ["unicode/utf8.first", "unicode/utf8.acceptRanges", "internal/strconv.uint64pow10", "math/bits.deBruijn32tab", "math/bits.deBruijn64tab", "internal/bytealg.MaxLen"], apart := false, laid := [("math/bits.deBruijn32tab", laid_math_bits_deBruijn32tab), ("math/bits.deBruijn64tab", laid_math_bits_deBruijn64tab), ("internal/strconv.uint64pow10", laid_internal_strconv_uint64pow10), ("unicode/utf8.acceptRanges", laid_unicode_utf8_acceptRanges), ("unicode/utf8.first", laid_unicode_utf8_first)], narrowed := true }
def SagaDecidedUptoSaid : Prop := sagaDecidedUptoRow.holds Tryz.pinned (OpenSpec.upto sagaDecidedSpec)

/-- 'ententelaw21.SagaOrder', WHERE WHAT IT READS IS OF BULK AT MOST 1048576: true; the input reads as it did. -/
def sagaOrderUptoRow : OpenClaim := { program := "ytkjiaijkdefkgaagreatdoor", sum := "86a6b77c364aa203f530e9a6d5f2f8d58e052c14087b05918a62a52837a6403b", func := "entente/ententelaw21.SagaOrder", spec := "sagaOrder", inPlace := ["internal/bytealg.IndexByteString", "internal/bytealg.IndexString"], unfollowed := true, recurses := true, named := ["unicode/utf8.first", "unicode/utf8.acceptRanges", "internal/strconv.uint64pow10", "math/bits.deBruijn32tab", "math/bits.deBruijn64tab", "internal/bytealg.MaxLen"], apart := false, laid := [("math/bits.deBruijn32tab", laid_math_bits_deBruijn32tab), ("math/bits.deBruijn64tab", laid_math_bits_deBruijn64tab), ("internal/strconv.uint64pow10", laid_internal_strconv_uint64pow10), ("unicode/utf8.acceptRanges", laid_unicode_utf8_acceptRanges), ("unicode/utf8.first", laid_unicode_utf8_first)], narrowed := true }
def SagaOrderUptoSaid : Prop := sagaOrderUptoRow.holds Tryz.pinned (OpenSpec.upto sagaOrderSpec)

/-- 'ententelaw21.SagaStates', WHERE WHAT IT READS IS OF BULK AT MOST 1048576: true; the input reads as it did. -/
def sagaStatesUptoRow : OpenClaim := { program := "ytkjiaijkdefkgaagreatdoor", sum := "86a6b77c364aa203f530e9a6d5f2f8d58e052c14087b05918a62a52837a6403b", func := "entente/ententelaw21.SagaStates", spec := "sagaStates", inPlace := ["internal/bytealg.IndexByteString", "internal/bytealg.IndexString"], unfollowed := true, recurses := true, named := ["unicode/utf8.first", "unicode/utf8.acceptRanges", "internal/strconv.uint64pow10", "math/bits.deBruijn32tab", "math/bits.deBruijn64tab", "internal/bytealg.MaxLen"], apart := false, laid := [("math/bits.deBruijn32tab", laid_math_bits_deBruijn32tab), ("math/bits.deBruijn64tab", laid_math_bits_deBruijn64tab), ("internal/strconv.uint64pow10", laid_internal_strconv_uint64pow10), ("unicode/utf8.acceptRanges", laid_unicode_utf8_acceptRanges), ("unicode/utf8.first", laid_unicode_utf8_first)], narrowed := true }
def SagaStatesUptoSaid : Prop := sagaStatesUptoRow.holds Tryz.pinned (OpenSpec.upto sagaStatesSpec)

/-- 'ententelaw21.SagaOnce', WHERE WHAT IT READS IS OF BULK AT MOST 1048576: true; the input reads as it did. -/
def sagaOnceUptoRow : OpenClaim := { program := "ytkjiaijkdefkgaagreatdoor", sum := "86a6b77c364aa203f530e9a6d5f2f8d58e052c14087b05918a62a52837a6403b", func := "entente/ententelaw21.SagaOnce", spec := "sagaOnce", inPlace := ["internal/bytealg.IndexByteString", "internal/bytealg.IndexString"], unfollowed := true, recurses := true, named := ["unicode/utf8.first", "unicode/utf8.acceptRanges", "internal/strconv.uint64pow10", "math/bits.deBruijn32tab", "math/bits.deBruijn64tab", "internal/bytealg.MaxLen"], apart := false, laid := [("math/bits.deBruijn32tab", laid_math_bits_deBruijn32tab), ("math/bits.deBruijn64tab", laid_math_bits_deBruijn64tab), ("internal/strconv.uint64pow10", laid_internal_strconv_uint64pow10), ("unicode/utf8.acceptRanges", laid_unicode_utf8_acceptRanges), ("unicode/utf8.first", laid_unicode_utf8_first)], narrowed := true }
def SagaOnceUptoSaid : Prop := sagaOnceUptoRow.holds Tryz.pinned (OpenSpec.upto sagaOnceSpec)

end Rows
end Go.Proofs.YtkjiaijkdefkgaaGreatDoor
