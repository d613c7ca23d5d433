/- The law AggrGroup (P16.1: the group of a label set) is proved: for every label set, all names and either way, the law's function returns true and its arguments read as before. Conditions: those of the row's own form (the translation is for linux/amd64; each string and slice lies within the form's reach; the two tables of unicode/utf8 start as Go's library lays them). -/
import Derived.ArgAppend
import Derived.Below
import Derived.BigQuiet
import Derived.ChangeArms
import Derived.ChangeOld
import Derived.Deep.AppendLies
import Derived.Deep.CutBlock
import Derived.Deep.DeepCutAuto
import Derived.Deep.DeepHandedRow
import Derived.Deep.Draws
import Derived.Deep.LoopGhost
import Derived.Deep.OwnRows
import Derived.Deep.QuietTactic
import Derived.Deep.RegionHeld3
import Derived.Deep.SlicePairs
import Derived.Ground.NamesProg
import Derived.Ground.SlsfProg
import Derived.IntWalk
import Derived.JoinedOf
import Derived.KernelRfl
import Derived.LaidHandle
import Derived.Laws.BitsLemmas
import Derived.Laws.BytesArg
import Derived.Laws.Externs
import Derived.Laws.FloatArith
import Derived.Laws.IdiomCopy
import Derived.Laws.MakeOwn
import Derived.Laws.OwnMore
import Derived.Laws.Rows
import Derived.Laws.Slices
import Derived.Laws.StructEq
import Derived.Lay
import Derived.Lib.AppendStr
import Derived.Lib.ConvBytes
import Derived.Lib.LaidU8T
import Derived.Lib.TrimUEq
import Derived.Lib.ValidLaws
import Derived.Maps.AppendAt
import Derived.Maps.OwnOps
import Derived.Maps.OwnSet
import Derived.Maps.Views
import Derived.OpenShut
import Derived.OrdersHeld
import Derived.Outline
import Derived.OwnWalk
import Derived.ProofKit
import Derived.RowKit
import Derived.RowKit3
import Derived.Shelf.Bits.Mul64
import Derived.Shelf.SlSortCmp.NoneTotal
import Derived.Shelf.Small.Strs
import Derived.Shelf.Strings.Search1
import Derived.Shelf.Unicode.ValidAny
import Derived.ShutString
import Derived.SizedLaws
import Derived.SliceStrings
import Derived.Sort.Grow
import Derived.Tactics
import Derived.Test.YtoncpeadbhgmaaaGreatDoorCards
import Derived.Test.YtoncpeadbhgmaaaGreatDoorChecked
import Derived.Test.YtoncpeadbhgmaaaGreatDoorGg0
import Derived.Test.YtoncpeadbhgmaaaGreatDoorGg1
import Derived.Test.YtoncpeadbhgmaaaGreatDoorGg10
import Derived.Test.YtoncpeadbhgmaaaGreatDoorGg11
import Derived.Test.YtoncpeadbhgmaaaGreatDoorGg12
import Derived.Test.YtoncpeadbhgmaaaGreatDoorGg13
import Derived.Test.YtoncpeadbhgmaaaGreatDoorGg2
import Derived.Test.YtoncpeadbhgmaaaGreatDoorGg3
import Derived.Test.YtoncpeadbhgmaaaGreatDoorGg4
import Derived.Test.YtoncpeadbhgmaaaGreatDoorGg5
import Derived.Test.YtoncpeadbhgmaaaGreatDoorGg6
import Derived.Test.YtoncpeadbhgmaaaGreatDoorGg7
import Derived.Test.YtoncpeadbhgmaaaGreatDoorGg8
import Derived.Test.YtoncpeadbhgmaaaGreatDoorGg9
import Derived.Test.YtoncpeadbhgmaaaGreatDoorProg
import Derived.Test.YtoncpeadbhgmaaaGreatDoorRows
import Derived.Test.YtoncpeadbhgmaaaGreatDoorTie
import Derived.WalkKit
import Derived.WalkSpells
import Derived.WideLaws
set_option linter.unusedVariables false
set_option linter.unusedSimpArgs false
namespace Go.Proofs.YtoncpeadbhgmaaaGreatDoor.G
open Go.ChangeShapes Go.WideShapes Go.ChangeAt Go.RowKit Go.Shelf Go.Lib

theorem pinnedProg : Tryz.pinned.checked.prog = Tryz.prog := rfl
theorem aggrGroup_closed' : joinedFacts Tryz.pinned.checked.prog 11 Tryz.f11 (OpenSpec.ofChange Rows.aggrGroupSpec).bare Rows.aggrGroupRow = true := by
  rw [pinnedProg]; exact aggrGroup_closed
theorem aggrGroup_said : Rows.AggrGroupSaid := by
  refine OpenClaim.holds_of_cond (p := Tryz.pinned) (s := OpenSpec.ofChange Rows.aggrGroupSpec) (c := Rows.aggrGroupRow) 11 Tryz.f11 rfl rfl rfl rfl rfl rfl rfl ⟨rfl, rfl, rfl, rfl, rfl⟩ rfl rfl rfl rfl rfl ?_ ?_ aggrGroup_closed' ?_ ?_ ?_
  · kernel_rfl
  · exact Tryz.func11
  · exact of_decide_eq_true (by kernel_rfl)
  · unfold Func.isWrapper; first | (rw [if_pos (by decide +kernel)]; kernel_rfl) | (rw [if_neg (by decide +kernel)]; exact ⟨rfl, rfl⟩)
  · exact fun os started H enc _ F => by rw [OpenClaim.pre_eq_preRow]; exact aggrGroup_lifted os started H enc F
theorem aggrGroup_plain (f : FuncId) (fn : Func) (hf : Tryz.pinned.checked.prog.funcNamed "tocsin/tocsinlaw16.AggrGroup" = some f) (hfn : Tryz.pinned.checked.prog.funcs[f]? = some fn) :
    true = Tryz.pinned.checked.prog.looks [] ∧ ∀ (j : Nat) t, fn.params[j]? = some t → Tryz.pinned.checked.prog.wantsStandIn t = false := by
  obtain rfl : f = 11 := Option.some.inj ((show Tryz.prog.funcNamed "tocsin/tocsinlaw16.AggrGroup" = some 11 by kernel_rfl).symm.trans hf) |>.symm
  obtain rfl : fn = Tryz.f11 := (Option.some.inj (Tryz.func11.symm.trans hfn)).symm
  refine ⟨by kernel_rfl, fun j t ht => ?_⟩
  rw [Tryz.params11] at ht
  have hm := Array.mem_of_getElem? ht
  simp only [List.mem_toArray, List.mem_cons, List.not_mem_nil, or_false] at hm
  rcases hm with rfl | rfl | rfl
  · exact (show Tryz.prog.wantsStandIn 39 = false by kernel_rfl)
  · exact (show Tryz.prog.wantsStandIn 23 = false by kernel_rfl)
  · exact (show Tryz.prog.wantsStandIn 4 = false by kernel_rfl)
/-- The card. -/
theorem aggrGroup_card : Rows.AggrGroupCardSaid :=
  Claim7.holds_tied_plain_at .later [] _ _ _ _ aggrGroup_said (fun _ h => by cases h) (by kernel_rfl) (fun _ h => by cases h) aggrGroup_row_tie rfl ⟨rfl, rfl⟩ (by kernel_rfl) rfl aggrGroup_plain (by kernel_rfl)
end Go.Proofs.YtoncpeadbhgmaaaGreatDoor.G

