/-
  NARROWER THAN 'FOR EVERY INPUT', by the rows' own cells (each row's printed sentence says how): VecBinary: laid · VecScalars: laid · AggrOrder: laid · AggrBounds: laid · AggrTop: laid · AggrNumbers: laid · AggrFolds: laid · AggrGroups: laid · AggrGroup: laid · AggrValues: laid · AggrCounts: laid.
  DERIVED. THE GIVEN ROWS OF THIS SEAT. 11 by the template 'for every input the law returns true; each argument reads behind the call as it read before'; 0 by the template 'total and deterministic' (their statements: YtoncpeadbhgmaaaGreatDoorTotals.lean).
  GIVEN WITH THE SEED: the statements are not yours to turn. If you find one false, say at which input.
  Laid BY PROGRAM, IN A SANDBOX (cutbox-rows.mjs): the forced cells as the released guide's own fill.sh prints them over the translation f9684cb4f03887fa… (all of the seat's roots in one cut). By AI agents, Wed Nov 11 2026. No macro, syntax, notation, axiom, sorry.
-/
import Derived.Test.YtoncpeadbhgmaaaGreatDoorChecked
import GoSem.PinnedTables
import GoSem.Claim
import GoSem.ClaimJoined
import GoSem.ClaimMapViews
import Derived.JoinedTies
import Derived.KernelRfl
namespace Go.Proofs.YtoncpeadbhgmaaaGreatDoor
/- THE CELL 'sum', in the pinned program and in every row, IS THE sha256 OF THE DUMP (.gsa) THAT YtoncpeadbhgmaaaGreatDoorProg.lean LOADS. Nothing in Lean hashes anything: it is a label: what it is worth is what the hold of that sum in a sandbox is worth. -/
noncomputable def Tryz.pinned : Pinned := { name := "ytoncpeadbhgmaaagreatdoor", sum := "f9684cb4f03887faa8a0b9f9fc363b5c003ab0022e37fe736509be124e42c521", checked := Tryz.checked }
namespace Rows
def none {H : Type} : Left H := { results := [], args := [] }

/- WHAT THE LISTED PACKAGE-LEVEL VARIABLES READ AS WHEN THE CALL BEGINS. Each datum BY PROGRAM (the guide's laid-datum.mjs) off the statement by which the dump's own 'gosem.cut.vars' lays the variable. In a bare row this is a premise. The card (YtoncpeadbhgmaaaGreatDoorCards.lean) ties it to the program's text. -/
def laid_unicode_utf8_acceptRanges {H : Type} : DataW H := .agg [.agg [.lit (.int .u8 128), .lit (.int .u8 191)], .agg [.lit (.int .u8 160), .lit (.int .u8 191)], .agg [.lit (.int .u8 128), .lit (.int .u8 159)], .agg [.lit (.int .u8 144), .lit (.int .u8 191)], .agg [.lit (.int .u8 128), .lit (.int .u8 143)], .agg [.lit (.int .u8 0), .lit (.int .u8 0)], .agg [.lit (.int .u8 0), .lit (.int .u8 0)], .agg [.lit (.int .u8 0), .lit (.int .u8 0)], .agg [.lit (.int .u8 0), .lit (.int .u8 0)], .agg [.lit (.int .u8 0), .lit (.int .u8 0)], .agg [.lit (.int .u8 0), .lit (.int .u8 0)], .agg [.lit (.int .u8 0), .lit (.int .u8 0)], .agg [.lit (.int .u8 0), .lit (.int .u8 0)], .agg [.lit (.int .u8 0), .lit (.int .u8 0)], .agg [.lit (.int .u8 0), .lit (.int .u8 0)], .agg [.lit (.int .u8 0), .lit (.int .u8 0)]]
/-- One of Go's own tables, pinned by name: the form's constant. -/
def laid_unicode_utf8_first : DataW Unit := Go.Pinned.utf8First
def laid_math_bits_deBruijn32tab {H : Type} : DataW H := .agg [.lit (.int .u8 0), .lit (.int .u8 1), .lit (.int .u8 28), .lit (.int .u8 2), .lit (.int .u8 29), .lit (.int .u8 14), .lit (.int .u8 24), .lit (.int .u8 3), .lit (.int .u8 30), .lit (.int .u8 22), .lit (.int .u8 20), .lit (.int .u8 15), .lit (.int .u8 25), .lit (.int .u8 17), .lit (.int .u8 4), .lit (.int .u8 8), .lit (.int .u8 31), .lit (.int .u8 27), .lit (.int .u8 13), .lit (.int .u8 23), .lit (.int .u8 21), .lit (.int .u8 19), .lit (.int .u8 16), .lit (.int .u8 7), .lit (.int .u8 26), .lit (.int .u8 12), .lit (.int .u8 18), .lit (.int .u8 6), .lit (.int .u8 11), .lit (.int .u8 5), .lit (.int .u8 10), .lit (.int .u8 9)]
def laid_math_bits_deBruijn64tab {H : Type} : DataW H := .agg [.lit (.int .u8 0), .lit (.int .u8 1), .lit (.int .u8 56), .lit (.int .u8 2), .lit (.int .u8 57), .lit (.int .u8 49), .lit (.int .u8 28), .lit (.int .u8 3), .lit (.int .u8 61), .lit (.int .u8 58), .lit (.int .u8 42), .lit (.int .u8 50), .lit (.int .u8 38), .lit (.int .u8 29), .lit (.int .u8 17), .lit (.int .u8 4), .lit (.int .u8 62), .lit (.int .u8 47), .lit (.int .u8 59), .lit (.int .u8 36), .lit (.int .u8 45), .lit (.int .u8 43), .lit (.int .u8 51), .lit (.int .u8 22), .lit (.int .u8 53), .lit (.int .u8 39), .lit (.int .u8 33), .lit (.int .u8 30), .lit (.int .u8 24), .lit (.int .u8 18), .lit (.int .u8 12), .lit (.int .u8 5), .lit (.int .u8 63), .lit (.int .u8 55), .lit (.int .u8 48), .lit (.int .u8 27), .lit (.int .u8 60), .lit (.int .u8 41), .lit (.int .u8 37), .lit (.int .u8 16), .lit (.int .u8 46), .lit (.int .u8 35), .lit (.int .u8 44), .lit (.int .u8 21), .lit (.int .u8 52), .lit (.int .u8 32), .lit (.int .u8 23), .lit (.int .u8 11), .lit (.int .u8 54), .lit (.int .u8 26), .lit (.int .u8 40), .lit (.int .u8 15), .lit (.int .u8 34), .lit (.int .u8 20), .lit (.int .u8 31), .lit (.int .u8 10), .lit (.int .u8 25), .lit (.int .u8 14), .lit (.int .u8 19), .lit (.int .u8 9), .lit (.int .u8 13), .lit (.int .u8 8), .lit (.int .u8 7), .lit (.int .u8 6)]
def laid_internal_strconv_optimize {H : Type} : DataW H := .lit (.bool true)
def laid_internal_strconv_uint64pow10 {H : Type} : DataW H := .agg [.lit (.int .u64 1), .lit (.int .u64 10), .lit (.int .u64 100), .lit (.int .u64 1000), .lit (.int .u64 10000), .lit (.int .u64 100000), .lit (.int .u64 1000000), .lit (.int .u64 10000000), .lit (.int .u64 100000000), .lit (.int .u64 1000000000), .lit (.int .u64 10000000000), .lit (.int .u64 100000000000), .lit (.int .u64 1000000000000), .lit (.int .u64 10000000000000), .lit (.int .u64 100000000000000), .lit (.int .u64 1000000000000000), .lit (.int .u64 10000000000000000), .lit (.int .u64 100000000000000000), .lit (.int .u64 1000000000000000000), .lit (.int .u64 10000000000000000000)]
def laid_strconv_ErrRange {H : Type} : DataW H := .iface "*errors.errorString" (.ptr (.agg [.lit (.string [118, 97, 108, 117, 101, 32, 111, 117, 116, 32, 111, 102, 32, 114, 97, 110, 103, 101])]))
def laid_strconv_ErrSyntax {H : Type} : DataW H := .iface "*errors.errorString" (.ptr (.agg [.lit (.string [105, 110, 118, 97, 108, 105, 100, 32, 115, 121, 110, 116, 97, 120])]))
/-- One of Go's own tables, pinned by name: the form's constant. -/
def laid_internal_strconv_leftcheats : DataW Unit := Go.Pinned.leftcheats
/-- One of Go's own tables, pinned by name: the form's constant. -/
def laid_internal_strconv_pow10Tab : DataW Unit := Go.Pinned.pow10Tab

/-- 'tocsinlaw15.VecBinary': WHATEVER THE INPUT: true; the input reads as it did. -/
def vecBinarySpec : ChangeSpec := { name := "vecBinary", fn := fun _ => fun
  | [d1, d2, d3, d4, d5] => { results := [.lit (.bool true)], args := [d1, d2, d3, d4, d5] }
  | _ => none }
def vecBinaryRow : OpenClaim := { program := "ytoncpeadbhgmaaagreatdoor", sum := "f9684cb4f03887faa8a0b9f9fc363b5c003ab0022e37fe736509be124e42c521", func := "tocsin/tocsinlaw15.VecBinary", spec := "vecBinary", inPlace := ["internal/bytealg.abigen_runtime_cmpstring", "math.Float64bits", "math.Float64frombits", "math.archTrunc"], unfollowed := true, recurses := true, named := ["unicode/utf8.first", "unicode/utf8.acceptRanges"], apart := false, laid := [("unicode/utf8.acceptRanges", laid_unicode_utf8_acceptRanges), ("unicode/utf8.first", laid_unicode_utf8_first)] }
def VecBinarySaid : Prop := vecBinaryRow.holds Tryz.pinned (OpenSpec.ofChange vecBinarySpec)

/-- ITS FALSE NEIGHBOUR: 'it returns false'. Refute it at one input. -/
def vecBinaryWrong : ChangeSpec := { name := "vecBinary", fn := fun _ => fun
  | [d1, d2, d3, d4, d5] => { results := [.lit (.bool false)], args := [d1, d2, d3, d4, d5] }
  | _ => none }
def VecBinaryWrongFalsely : Prop := vecBinaryRow.holds Tryz.pinned (OpenSpec.ofChange vecBinaryWrong)

/-- 'tocsinlaw15.VecScalars': WHATEVER THE INPUT: true; the input reads as it did. -/
def vecScalarsSpec : ChangeSpec := { name := "vecScalars", fn := fun _ => fun
  | [d1, d2, d3, d4] => { results := [.lit (.bool true)], args := [d1, d2, d3, d4] }
  | _ => none }
def vecScalarsRow : OpenClaim := { program := "ytoncpeadbhgmaaagreatdoor", sum := "f9684cb4f03887faa8a0b9f9fc363b5c003ab0022e37fe736509be124e42c521", func := "tocsin/tocsinlaw15.VecScalars", spec := "vecScalars", inPlace := ["math.Float64bits", "math.Float64frombits", "math.archTrunc", "internal/bytealg.abigen_runtime_cmpstring"], unfollowed := true, recurses := true, named := ["unicode/utf8.first", "unicode/utf8.acceptRanges"], apart := false, laid := [("unicode/utf8.acceptRanges", laid_unicode_utf8_acceptRanges), ("unicode/utf8.first", laid_unicode_utf8_first)] }
def VecScalarsSaid : Prop := vecScalarsRow.holds Tryz.pinned (OpenSpec.ofChange vecScalarsSpec)

/-- ITS FALSE NEIGHBOUR: 'it returns false'. Refute it at one input. -/
def vecScalarsWrong : ChangeSpec := { name := "vecScalars", fn := fun _ => fun
  | [d1, d2, d3, d4] => { results := [.lit (.bool false)], args := [d1, d2, d3, d4] }
  | _ => none }
def VecScalarsWrongFalsely : Prop := vecScalarsRow.holds Tryz.pinned (OpenSpec.ofChange vecScalarsWrong)

/-- 'tocsinlaw16.AggrOrder': WHATEVER THE INPUT: true; the input reads as it did. -/
def aggrOrderSpec : ChangeSpec := { name := "aggrOrder", fn := fun _ => fun
  | [d1, d2, d3, d4, d5, d6] => { results := [.lit (.bool true)], args := [d1, d2, d3, d4, d5, d6] }
  | _ => none }
def aggrOrderRow : OpenClaim := { program := "ytoncpeadbhgmaaagreatdoor", sum := "f9684cb4f03887faa8a0b9f9fc363b5c003ab0022e37fe736509be124e42c521", func := "tocsin/tocsinlaw16.AggrOrder", spec := "aggrOrder", inPlace := ["internal/bytealg.abigen_runtime_cmpstring", "math.sqrt", "math.Float64frombits", "math.Float64bits"], unfollowed := true, recurses := true, named := ["unicode/utf8.first", "unicode/utf8.acceptRanges"], apart := false, laid := [("unicode/utf8.acceptRanges", laid_unicode_utf8_acceptRanges), ("unicode/utf8.first", laid_unicode_utf8_first)] }
def AggrOrderSaid : Prop := aggrOrderRow.holds Tryz.pinned (OpenSpec.ofChange aggrOrderSpec)

/-- ITS FALSE NEIGHBOUR: 'it returns false'. Refute it at one input. -/
def aggrOrderWrong : ChangeSpec := { name := "aggrOrder", fn := fun _ => fun
  | [d1, d2, d3, d4, d5, d6] => { results := [.lit (.bool false)], args := [d1, d2, d3, d4, d5, d6] }
  | _ => none }
def AggrOrderWrongFalsely : Prop := aggrOrderRow.holds Tryz.pinned (OpenSpec.ofChange aggrOrderWrong)

/-- 'tocsinlaw16.AggrBounds': WHATEVER THE INPUT: true; the input reads as it did. -/
def aggrBoundsSpec : ChangeSpec := { name := "aggrBounds", fn := fun _ => fun
  | [d1, d2, d3] => { results := [.lit (.bool true)], args := [d1, d2, d3] }
  | _ => none }
def aggrBoundsRow : OpenClaim := { program := "ytoncpeadbhgmaaagreatdoor", sum := "f9684cb4f03887faa8a0b9f9fc363b5c003ab0022e37fe736509be124e42c521", func := "tocsin/tocsinlaw16.AggrBounds", spec := "aggrBounds", inPlace := ["math.sqrt", "math.Float64frombits", "math.Float64bits", "internal/bytealg.abigen_runtime_cmpstring"], unfollowed := true, recurses := true, named := ["unicode/utf8.first", "unicode/utf8.acceptRanges"], apart := false, laid := [("unicode/utf8.acceptRanges", laid_unicode_utf8_acceptRanges), ("unicode/utf8.first", laid_unicode_utf8_first)] }
def AggrBoundsSaid : Prop := aggrBoundsRow.holds Tryz.pinned (OpenSpec.ofChange aggrBoundsSpec)

/-- ITS FALSE NEIGHBOUR: 'it returns false'. Refute it at one input. -/
def aggrBoundsWrong : ChangeSpec := { name := "aggrBounds", fn := fun _ => fun
  | [d1, d2, d3] => { results := [.lit (.bool false)], args := [d1, d2, d3] }
  | _ => none }
def AggrBoundsWrongFalsely : Prop := aggrBoundsRow.holds Tryz.pinned (OpenSpec.ofChange aggrBoundsWrong)

/-- 'tocsinlaw16.AggrTop': WHATEVER THE INPUT: true; the input reads as it did. -/
def aggrTopSpec : ChangeSpec := { name := "aggrTop", fn := fun _ => fun
  | [d1, d2, d3, d4] => { results := [.lit (.bool true)], args := [d1, d2, d3, d4] }
  | _ => none }
def aggrTopRow : OpenClaim := { program := "ytoncpeadbhgmaaagreatdoor", sum := "f9684cb4f03887faa8a0b9f9fc363b5c003ab0022e37fe736509be124e42c521", func := "tocsin/tocsinlaw16.AggrTop", spec := "aggrTop", inPlace := ["internal/bytealg.abigen_runtime_cmpstring", "math.sqrt", "math.Float64frombits", "math.Float64bits"], unfollowed := true, recurses := true, named := ["unicode/utf8.first", "unicode/utf8.acceptRanges"], apart := false, laid := [("unicode/utf8.acceptRanges", laid_unicode_utf8_acceptRanges), ("unicode/utf8.first", laid_unicode_utf8_first)] }
def AggrTopSaid : Prop := aggrTopRow.holds Tryz.pinned (OpenSpec.ofChange aggrTopSpec)

/-- ITS FALSE NEIGHBOUR: 'it returns false'. Refute it at one input. -/
def aggrTopWrong : ChangeSpec := { name := "aggrTop", fn := fun _ => fun
  | [d1, d2, d3, d4] => { results := [.lit (.bool false)], args := [d1, d2, d3, d4] }
  | _ => none }
def AggrTopWrongFalsely : Prop := aggrTopRow.holds Tryz.pinned (OpenSpec.ofChange aggrTopWrong)

/-- 'tocsinlaw16.AggrNumbers': WHATEVER THE INPUT: true; the input reads as it did. -/
def aggrNumbersSpec : ChangeSpec := { name := "aggrNumbers", fn := fun _ => fun
  | [d1, d2, d3, d4, d5] => { results := [.lit (.bool true)], args := [d1, d2, d3, d4, d5] }
  | _ => none }
def aggrNumbersRow : OpenClaim := { program := "ytoncpeadbhgmaaagreatdoor", sum := "f9684cb4f03887faa8a0b9f9fc363b5c003ab0022e37fe736509be124e42c521", func := "tocsin/tocsinlaw16.AggrNumbers", spec := "aggrNumbers", inPlace := ["internal/bytealg.abigen_runtime_cmpstring", "math.sqrt", "math.Float64frombits", "math.Float64bits"], unfollowed := true, recurses := true, named := ["unicode/utf8.first", "unicode/utf8.acceptRanges"], apart := false, laid := [("unicode/utf8.acceptRanges", laid_unicode_utf8_acceptRanges), ("unicode/utf8.first", laid_unicode_utf8_first)] }
def AggrNumbersSaid : Prop := aggrNumbersRow.holds Tryz.pinned (OpenSpec.ofChange aggrNumbersSpec)

/-- ITS FALSE NEIGHBOUR: 'it returns false'. Refute it at one input. -/
def aggrNumbersWrong : ChangeSpec := { name := "aggrNumbers", fn := fun _ => fun
  | [d1, d2, d3, d4, d5] => { results := [.lit (.bool false)], args := [d1, d2, d3, d4, d5] }
  | _ => none }
def AggrNumbersWrongFalsely : Prop := aggrNumbersRow.holds Tryz.pinned (OpenSpec.ofChange aggrNumbersWrong)

/-- 'tocsinlaw16.AggrFolds': WHATEVER THE INPUT: true; the input reads as it did. -/
def aggrFoldsSpec : ChangeSpec := { name := "aggrFolds", fn := fun _ => fun
  | [d1, d2, d3] => { results := [.lit (.bool true)], args := [d1, d2, d3] }
  | _ => none }
def aggrFoldsRow : OpenClaim := { program := "ytoncpeadbhgmaaagreatdoor", sum := "f9684cb4f03887faa8a0b9f9fc363b5c003ab0022e37fe736509be124e42c521", func := "tocsin/tocsinlaw16.AggrFolds", spec := "aggrFolds", inPlace := ["math.sqrt", "math.Float64frombits", "math.Float64bits", "internal/bytealg.abigen_runtime_cmpstring"], unfollowed := true, recurses := true, named := ["unicode/utf8.first", "unicode/utf8.acceptRanges"], apart := false, laid := [("unicode/utf8.acceptRanges", laid_unicode_utf8_acceptRanges), ("unicode/utf8.first", laid_unicode_utf8_first)] }
def AggrFoldsSaid : Prop := aggrFoldsRow.holds Tryz.pinned (OpenSpec.ofChange aggrFoldsSpec)

/-- ITS FALSE NEIGHBOUR: 'it returns false'. Refute it at one input. -/
def aggrFoldsWrong : ChangeSpec := { name := "aggrFolds", fn := fun _ => fun
  | [d1, d2, d3] => { results := [.lit (.bool false)], args := [d1, d2, d3] }
  | _ => none }
def AggrFoldsWrongFalsely : Prop := aggrFoldsRow.holds Tryz.pinned (OpenSpec.ofChange aggrFoldsWrong)

/-- 'tocsinlaw16.AggrGroups': WHATEVER THE INPUT: true; the input reads as it did. -/
def aggrGroupsSpec : ChangeSpec := { name := "aggrGroups", fn := fun _ => fun
  | [d1, d2, d3] => { results := [.lit (.bool true)], args := [d1, d2, d3] }
  | _ => none }
def aggrGroupsRow : OpenClaim := { program := "ytoncpeadbhgmaaagreatdoor", sum := "f9684cb4f03887faa8a0b9f9fc363b5c003ab0022e37fe736509be124e42c521", func := "tocsin/tocsinlaw16.AggrGroups", spec := "aggrGroups", inPlace := ["internal/bytealg.abigen_runtime_cmpstring", "math.Float64bits", "math.sqrt", "math.Float64frombits"], unfollowed := true, recurses := true, named := ["unicode/utf8.first", "unicode/utf8.acceptRanges"], apart := false, laid := [("unicode/utf8.acceptRanges", laid_unicode_utf8_acceptRanges), ("unicode/utf8.first", laid_unicode_utf8_first)] }
def AggrGroupsSaid : Prop := aggrGroupsRow.holds Tryz.pinned (OpenSpec.ofChange aggrGroupsSpec)

/-- ITS FALSE NEIGHBOUR: 'it returns false'. Refute it at one input. -/
def aggrGroupsWrong : ChangeSpec := { name := "aggrGroups", fn := fun _ => fun
  | [d1, d2, d3] => { results := [.lit (.bool false)], args := [d1, d2, d3] }
  | _ => none }
def AggrGroupsWrongFalsely : Prop := aggrGroupsRow.holds Tryz.pinned (OpenSpec.ofChange aggrGroupsWrong)

/-- 'tocsinlaw16.AggrGroup': WHATEVER THE INPUT: true; the input reads as it did. -/
def aggrGroupSpec : ChangeSpec := { name := "aggrGroup", fn := fun _ => fun
  | [d1, d2, d3] => { results := [.lit (.bool true)], args := [d1, d2, d3] }
  | _ => none }
def aggrGroupRow : OpenClaim := { program := "ytoncpeadbhgmaaagreatdoor", sum := "f9684cb4f03887faa8a0b9f9fc363b5c003ab0022e37fe736509be124e42c521", func := "tocsin/tocsinlaw16.AggrGroup", spec := "aggrGroup", inPlace := ["internal/bytealg.abigen_runtime_cmpstring", "math.sqrt", "math.Float64frombits", "math.Float64bits"], unfollowed := true, recurses := true, named := ["unicode/utf8.first", "unicode/utf8.acceptRanges"], apart := false, laid := [("unicode/utf8.acceptRanges", laid_unicode_utf8_acceptRanges), ("unicode/utf8.first", laid_unicode_utf8_first)] }
def AggrGroupSaid : Prop := aggrGroupRow.holds Tryz.pinned (OpenSpec.ofChange aggrGroupSpec)

/-- ITS FALSE NEIGHBOUR: 'it returns false'. Refute it at one input. -/
def aggrGroupWrong : ChangeSpec := { name := "aggrGroup", fn := fun _ => fun
  | [d1, d2, d3] => { results := [.lit (.bool false)], args := [d1, d2, d3] }
  | _ => none }
def AggrGroupWrongFalsely : Prop := aggrGroupRow.holds Tryz.pinned (OpenSpec.ofChange aggrGroupWrong)

/-- 'tocsinlaw16.AggrValues': WHATEVER THE INPUT: true; the input reads as it did. -/
def aggrValuesSpec : ChangeSpec := { name := "aggrValues", fn := fun _ => fun
  | [d1, d2, d3, d4] => { results := [.lit (.bool true)], args := [d1, d2, d3, d4] }
  | _ => none }
def aggrValuesRow : OpenClaim := { program := "ytoncpeadbhgmaaagreatdoor", sum := "f9684cb4f03887faa8a0b9f9fc363b5c003ab0022e37fe736509be124e42c521", func := "tocsin/tocsinlaw16.AggrValues", spec := "aggrValues", inPlace := ["internal/bytealg.abigen_runtime_cmpstring", "math.Float64bits", "math.Float64frombits", "internal/strconv.float32bits", "internal/strconv.float64bits", "internal/bytealg.IndexByteString", "math.sqrt"], unfollowed := true, recurses := true, named := ["unicode/utf8.first", "unicode/utf8.acceptRanges", "internal/strconv.optimize", "internal/strconv.uint64pow10", "math/bits.deBruijn32tab", "math/bits.deBruijn64tab", "internal/strconv.pow10Tab", "internal/strconv.leftcheats", "strconv.ErrSyntax", "strconv.ErrRange"], apart := false, laid := [("math/bits.deBruijn32tab", laid_math_bits_deBruijn32tab), ("math/bits.deBruijn64tab", laid_math_bits_deBruijn64tab), ("internal/strconv.optimize", laid_internal_strconv_optimize), ("internal/strconv.uint64pow10", laid_internal_strconv_uint64pow10), ("unicode/utf8.acceptRanges", laid_unicode_utf8_acceptRanges), ("strconv.ErrRange", laid_strconv_ErrRange), ("strconv.ErrSyntax", laid_strconv_ErrSyntax), ("internal/strconv.leftcheats", laid_internal_strconv_leftcheats), ("internal/strconv.pow10Tab", laid_internal_strconv_pow10Tab), ("unicode/utf8.first", laid_unicode_utf8_first)] }
def AggrValuesSaid : Prop := aggrValuesRow.holds Tryz.pinned (OpenSpec.ofChange aggrValuesSpec)

/-- ITS FALSE NEIGHBOUR: 'it returns false'. Refute it at one input. -/
def aggrValuesWrong : ChangeSpec := { name := "aggrValues", fn := fun _ => fun
  | [d1, d2, d3, d4] => { results := [.lit (.bool false)], args := [d1, d2, d3, d4] }
  | _ => none }
def AggrValuesWrongFalsely : Prop := aggrValuesRow.holds Tryz.pinned (OpenSpec.ofChange aggrValuesWrong)

/-- 'tocsinlaw16.AggrCounts': WHATEVER THE INPUT: true; the input reads as it did. -/
def aggrCountsSpec : ChangeSpec := { name := "aggrCounts", fn := fun _ => fun
  | [d1, d2, d3] => { results := [.lit (.bool true)], args := [d1, d2, d3] }
  | _ => none }
def aggrCountsRow : OpenClaim := { program := "ytoncpeadbhgmaaagreatdoor", sum := "f9684cb4f03887faa8a0b9f9fc363b5c003ab0022e37fe736509be124e42c521", func := "tocsin/tocsinlaw16.AggrCounts", spec := "aggrCounts", inPlace := ["internal/bytealg.abigen_runtime_cmpstring", "math.Float64bits", "math.Float64frombits", "internal/strconv.float32bits", "internal/strconv.float64bits", "internal/bytealg.IndexByteString", "math.sqrt"], unfollowed := true, recurses := true, named := ["unicode/utf8.first", "unicode/utf8.acceptRanges", "internal/strconv.optimize", "internal/strconv.uint64pow10", "math/bits.deBruijn32tab", "math/bits.deBruijn64tab", "internal/strconv.pow10Tab", "internal/strconv.leftcheats", "strconv.ErrSyntax", "strconv.ErrRange"], apart := false, laid := [("math/bits.deBruijn32tab", laid_math_bits_deBruijn32tab), ("math/bits.deBruijn64tab", laid_math_bits_deBruijn64tab), ("internal/strconv.optimize", laid_internal_strconv_optimize), ("internal/strconv.uint64pow10", laid_internal_strconv_uint64pow10), ("unicode/utf8.acceptRanges", laid_unicode_utf8_acceptRanges), ("strconv.ErrRange", laid_strconv_ErrRange), ("strconv.ErrSyntax", laid_strconv_ErrSyntax), ("internal/strconv.leftcheats", laid_internal_strconv_leftcheats), ("internal/strconv.pow10Tab", laid_internal_strconv_pow10Tab), ("unicode/utf8.first", laid_unicode_utf8_first)] }
def AggrCountsSaid : Prop := aggrCountsRow.holds Tryz.pinned (OpenSpec.ofChange aggrCountsSpec)

/-- ITS FALSE NEIGHBOUR: 'it returns false'. Refute it at one input. -/
def aggrCountsWrong : ChangeSpec := { name := "aggrCounts", fn := fun _ => fun
  | [d1, d2, d3] => { results := [.lit (.bool false)], args := [d1, d2, d3] }
  | _ => none }
def AggrCountsWrongFalsely : Prop := aggrCountsRow.holds Tryz.pinned (OpenSpec.ofChange aggrCountsWrong)

/- THE SECOND FORM. 'bulk': how many values and letters a reading holds, each counted each time it is reached (what is shared counts as often as it is met; a slice's spare places count too). A statement '..UptoSaid' is the law's where the arguments, and the package variables that the reading takes, are together of bulk at most 1048576: NARROWER than '..Said'. Prove '..Said' where nothing that the law and all that it calls make is longer than what came in: it says more and counts as full. Else prove '..UptoSaid'. A law counts once. -/
mutual
def uptoBulk {H : Type} : DataW H → Nat
  | .lit (.string bytes) => bytes.length + 1
  | .lit _ => 1
  | .nil => 1
  | .ptr d => uptoBulk d + 1
  | .slice elems spare => uptoBulkAll elems + uptoBulkAll spare + 1
  | .agg parts => uptoBulkAll parts + 1
  | .iface _ d => uptoBulk d + 1
  | .map entries => uptoBulkEntries entries + 1
  | .held _ => 1
def uptoBulkAll {H : Type} : List (DataW H) → Nat
  | [] => 0
  | d :: r => uptoBulk d + uptoBulkAll r
def uptoBulkEntries {H : Type} : List (Lit × DataW H) → Nat
  | [] => 0
  | x :: r => uptoBulkEntry x + uptoBulkEntries r
def uptoBulkEntry {H : Type} : Lit × DataW H → Nat
  | (.string bytes, d) => bytes.length + uptoBulk d + 1
  | (_, d) => uptoBulk d + 1
 end
def uptoSmall : (H : Type) → List (DataW H) → Bool := fun _ ds => decide (uptoBulkAll ds ≤ 1048576)
def OpenSpec.upto (s : _root_.Go.ChangeSpec) : _root_.Go.OpenSpec := { _root_.Go.OpenSpec.ofChange s with cond := some uptoSmall }

/-- 'tocsinlaw15.VecBinary', WHERE WHAT IT READS IS OF BULK AT MOST 1048576: true; the input reads as it did. -/
def vecBinaryUptoRow : OpenClaim := { program := "ytoncpeadbhgmaaagreatdoor", sum := "f9684cb4f03887faa8a0b9f9fc363b5c003ab0022e37fe736509be124e42c521", func := "tocsin/tocsinlaw15.VecBinary", spec := "vecBinary", inPlace := ["internal/bytealg.abigen_runtime_cmpstring", "math.Float64bits", "math.Float64frombits", "math.archTrunc"], unfollowed := true, recurses := true, named := ["unicode/utf8.first", "unicode/utf8.acceptRanges"], apart := false, laid := [("unicode/utf8.acceptRanges", laid_unicode_utf8_acceptRanges), ("unicode/utf8.first", laid_unicode_utf8_first)], narrowed := true }
def VecBinaryUptoSaid : Prop := vecBinaryUptoRow.holds Tryz.pinned (OpenSpec.upto vecBinarySpec)

/-- 'tocsinlaw15.VecScalars', WHERE WHAT IT READS IS OF BULK AT MOST 1048576: true; the input reads as it did. -/
def vecScalarsUptoRow : OpenClaim := { program := "ytoncpeadbhgmaaagreatdoor", sum := "f9684cb4f03887faa8a0b9f9fc363b5c003ab0022e37fe736509be124e42c521", func := "tocsin/tocsinlaw15.VecScalars", spec := "vecScalars", inPlace := ["math.Float64bits", "math.Float64frombits", "math.archTrunc", "internal/bytealg.abigen_runtime_cmpstring"], unfollowed := true, recurses := true, named := ["unicode/utf8.first", "unicode/utf8.acceptRanges"], apart := false, laid := [("unicode/utf8.acceptRanges", laid_unicode_utf8_acceptRanges), ("unicode/utf8.first", laid_unicode_utf8_first)], narrowed := true }
def VecScalarsUptoSaid : Prop := vecScalarsUptoRow.holds Tryz.pinned (OpenSpec.upto vecScalarsSpec)

/-- 'tocsinlaw16.AggrOrder', WHERE WHAT IT READS IS OF BULK AT MOST 1048576: true; the input reads as it did. -/
def aggrOrderUptoRow : OpenClaim := { program := "ytoncpeadbhgmaaagreatdoor", sum := "f9684cb4f03887faa8a0b9f9fc363b5c003ab0022e37fe736509be124e42c521", func := "tocsin/tocsinlaw16.AggrOrder", spec := "aggrOrder", inPlace := ["internal/bytealg.abigen_runtime_cmpstring", "math.sqrt", "math.Float64frombits", "math.Float64bits"], unfollowed := true, recurses := true, named := ["unicode/utf8.first", "unicode/utf8.acceptRanges"], apart := false, laid := [("unicode/utf8.acceptRanges", laid_unicode_utf8_acceptRanges), ("unicode/utf8.first", laid_unicode_utf8_first)], narrowed := true }
def AggrOrderUptoSaid : Prop := aggrOrderUptoRow.holds Tryz.pinned (OpenSpec.upto aggrOrderSpec)

/-- 'tocsinlaw16.AggrBounds', WHERE WHAT IT READS IS OF BULK AT MOST 1048576: true; the input reads as it did. -/
def aggrBoundsUptoRow : OpenClaim := { program := "ytoncpeadbhgmaaagreatdoor", sum := "f9684cb4f03887faa8a0b9f9fc363b5c003ab0022e37fe736509be124e42c521", func := "tocsin/tocsinlaw16.AggrBounds", spec := "aggrBounds", inPlace := ["math.sqrt", "math.Float64frombits", "math.Float64bits", "internal/bytealg.abigen_runtime_cmpstring"], unfollowed := true, recurses := true, named := ["unicode/utf8.first", "unicode/utf8.acceptRanges"], apart := false, laid := [("unicode/utf8.acceptRanges", laid_unicode_utf8_acceptRanges), ("unicode/utf8.first", laid_unicode_utf8_first)], narrowed := true }
def AggrBoundsUptoSaid : Prop := aggrBoundsUptoRow.holds Tryz.pinned (OpenSpec.upto aggrBoundsSpec)

/-- 'tocsinlaw16.AggrTop', WHERE WHAT IT READS IS OF BULK AT MOST 1048576: true; the input reads as it did. -/
def aggrTopUptoRow : OpenClaim := { program := "ytoncpeadbhgmaaagreatdoor", sum := "f9684cb4f03887faa8a0b9f9fc363b5c003ab0022e37fe736509be124e42c521", func := "tocsin/tocsinlaw16.AggrTop", spec := "aggrTop", inPlace := ["internal/bytealg.abigen_runtime_cmpstring", "math.sqrt", "math.Float64frombits", "math.Float64bits"], unfollowed := true, recurses := true, named := ["unicode/utf8.first", "unicode/utf8.acceptRanges"], apart := false, laid := [("unicode/utf8.acceptRanges", laid_unicode_utf8_acceptRanges), ("unicode/utf8.first", laid_unicode_utf8_first)], narrowed := true }
def AggrTopUptoSaid : Prop := aggrTopUptoRow.holds Tryz.pinned (OpenSpec.upto aggrTopSpec)

/-- 'tocsinlaw16.AggrNumbers', WHERE WHAT IT READS IS OF BULK AT MOST 1048576: true; the input reads as it did. -/
def aggrNumbersUptoRow : OpenClaim := { program := "ytoncpeadbhgmaaagreatdoor", sum := "f9684cb4f03887faa8a0b9f9fc363b5c003ab0022e37fe736509be124e42c521", func := "tocsin/tocsinlaw16.AggrNumbers", spec := "aggrNumbers", inPlace := ["internal/bytealg.abigen_runtime_cmpstring", "math.sqrt", "math.Float64frombits", "math.Float64bits"], unfollowed := true, recurses := true, named := ["unicode/utf8.first", "unicode/utf8.acceptRanges"], apart := false, laid := [("unicode/utf8.acceptRanges", laid_unicode_utf8_acceptRanges), ("unicode/utf8.first", laid_unicode_utf8_first)], narrowed := true }
def AggrNumbersUptoSaid : Prop := aggrNumbersUptoRow.holds Tryz.pinned (OpenSpec.upto aggrNumbersSpec)

/-- 'tocsinlaw16.AggrFolds', WHERE WHAT IT READS IS OF BULK AT MOST 1048576: true; the input reads as it did. -/
def aggrFoldsUptoRow : OpenClaim := { program := "ytoncpeadbhgmaaagreatdoor", sum := "f9684cb4f03887faa8a0b9f9fc363b5c003ab0022e37fe736509be124e42c521", func := "tocsin/tocsinlaw16.AggrFolds", spec := "aggrFolds", inPlace := ["math.sqrt", "math.Float64frombits", "math.Float64bits", "internal/bytealg.abigen_runtime_cmpstring"], unfollowed := true, recurses := true, named := ["unicode/utf8.first", "unicode/utf8.acceptRanges"], apart := false, laid := [("unicode/utf8.acceptRanges", laid_unicode_utf8_acceptRanges), ("unicode/utf8.first", laid_unicode_utf8_first)], narrowed := true }
def AggrFoldsUptoSaid : Prop := aggrFoldsUptoRow.holds Tryz.pinned (OpenSpec.upto aggrFoldsSpec)

/-- 'tocsinlaw16.AggrGroups', WHERE WHAT IT READS IS OF BULK AT MOST 1048576: true; the input reads as it did. -/
def aggrGroupsUptoRow : OpenClaim := { program := "ytoncpeadbhgmaaagreatdoor", sum := "f9684cb4f03887faa8a0b9f9fc363b5c003ab0022e37fe736509be124e42c521", func := "tocsin/tocsinlaw16.AggrGroups", spec := "aggrGroups", inPlace := ["internal/bytealg.abigen_runtime_cmpstring", "math.Float64bits", "math.sqrt", "math.Float64frombits"], unfollowed := true, recurses := true, named := ["unicode/utf8.first", "unicode/utf8.acceptRanges"], apart := false, laid := [("unicode/utf8.acceptRanges", laid_unicode_utf8_acceptRanges), ("unicode/utf8.first", laid_unicode_utf8_first)], narrowed := true }
def AggrGroupsUptoSaid : Prop := aggrGroupsUptoRow.holds Tryz.pinned (OpenSpec.upto aggrGroupsSpec)

/-- 'tocsinlaw16.AggrGroup', WHERE WHAT IT READS IS OF BULK AT MOST 1048576: true; the input reads as it did. -/
def aggrGroupUptoRow : OpenClaim := { program := "ytoncpeadbhgmaaagreatdoor", sum := "f9684cb4f03887faa8a0b9f9fc363b5c003ab0022e37fe736509be124e42c521", func := "tocsin/tocsinlaw16.AggrGroup", spec := "aggrGroup", inPlace := ["internal/bytealg.abigen_runtime_cmpstring", "math.sqrt", "math.Float64frombits", "math.Float64bits"], unfollowed := true, recurses := true, named := ["unicode/utf8.first", "unicode/utf8.acceptRanges"], apart := false, laid := [("unicode/utf8.acceptRanges", laid_unicode_utf8_acceptRanges), ("unicode/utf8.first", laid_unicode_utf8_first)], narrowed := true }
def AggrGroupUptoSaid : Prop := aggrGroupUptoRow.holds Tryz.pinned (OpenSpec.upto aggrGroupSpec)

/-- 'tocsinlaw16.AggrValues', WHERE WHAT IT READS IS OF BULK AT MOST 1048576: true; the input reads as it did. -/
def aggrValuesUptoRow : OpenClaim := { program := "ytoncpeadbhgmaaagreatdoor", sum := "f9684cb4f03887faa8a0b9f9fc363b5c003ab0022e37fe736509be124e42c521", func := "tocsin/tocsinlaw16.AggrValues", spec := "aggrValues", inPlace := ["internal/bytealg.abigen_runtime_cmpstring", "math.Float64bits", "math.Float64frombits", "internal/strconv.float32bits", "internal/strconv.float64bits", "internal/bytealg.IndexByteString", "math.sqrt"], unfollowed := true, recurses := true, named := ["unicode/utf8.first", "unicode/utf8.acceptRanges", "internal/strconv.optimize", "internal/strconv.uint64pow10", "math/bits.deBruijn32tab", "math/bits.deBruijn64tab", "internal/strconv.pow10Tab", "internal/strconv.leftcheats", "strconv.ErrSyntax", "strconv.ErrRange"], apart := false, laid := [("math/bits.deBruijn32tab", laid_math_bits_deBruijn32tab), ("math/bits.deBruijn64tab", laid_math_bits_deBruijn64tab), ("internal/strconv.optimize", laid_internal_strconv_optimize), ("internal/strconv.uint64pow10", laid_internal_strconv_uint64pow10), ("unicode/utf8.acceptRanges", laid_unicode_utf8_acceptRanges), ("strconv.ErrRange", laid_strconv_ErrRange), ("strconv.ErrSyntax", laid_strconv_ErrSyntax), ("internal/strconv.leftcheats", laid_internal_strconv_leftcheats), ("internal/strconv.pow10Tab", laid_internal_strconv_pow10Tab), ("unicode/utf8.first", laid_unicode_utf8_first)], narrowed := true }
def AggrValuesUptoSaid : Prop := aggrValuesUptoRow.holds Tryz.pinned (OpenSpec.upto aggrValuesSpec)

/-- 'tocsinlaw16.AggrCounts', WHERE WHAT IT READS IS OF BULK AT MOST 1048576: true; the input reads as it did. -/
def aggrCountsUptoRow : OpenClaim := { program := "ytoncpeadbhgmaaagreatdoor", sum := "f9684cb4f03887faa8a0b9f9fc363b5c003ab0022e37fe736509be124e42c521", func := "tocsin/tocsinlaw16.AggrCounts", spec := "aggrCounts", inPlace := ["internal/bytealg.abigen_runtime_cmpstring", "math.Float64bits", "math.Float64frombits", "internal/strconv.float32bits", "internal/strconv.float64bits", "internal/bytealg.IndexByteString", "math.sqrt"], unfollowed := true, recurses := true, named := ["unicode/utf8.first", "unicode/utf8.acceptRanges", "internal/strconv.optimize", "internal/strconv.uint64pow10", "math/bits.deBruijn32tab", "math/bits.deBruijn64tab", "internal/strconv.pow10Tab", "internal/strconv.leftcheats", "strconv.ErrSyntax", "strconv.ErrRange"], apart := false, laid := [("math/bits.deBruijn32tab", laid_math_bits_deBruijn32tab), ("math/bits.deBruijn64tab", laid_math_bits_deBruijn64tab), ("internal/strconv.optimize", laid_internal_strconv_optimize), ("internal/strconv.uint64pow10", laid_internal_strconv_uint64pow10), ("unicode/utf8.acceptRanges", laid_unicode_utf8_acceptRanges), ("strconv.ErrRange", laid_strconv_ErrRange), ("strconv.ErrSyntax", laid_strconv_ErrSyntax), ("internal/strconv.leftcheats", laid_internal_strconv_leftcheats), ("internal/strconv.pow10Tab", laid_internal_strconv_pow10Tab), ("unicode/utf8.first", laid_unicode_utf8_first)], narrowed := true }
def AggrCountsUptoSaid : Prop := aggrCountsUptoRow.holds Tryz.pinned (OpenSpec.upto aggrCountsSpec)

end Rows
end Go.Proofs.YtoncpeadbhgmaaaGreatDoor
