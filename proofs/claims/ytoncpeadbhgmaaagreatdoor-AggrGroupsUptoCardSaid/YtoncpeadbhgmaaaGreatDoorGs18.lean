/- The law AggrGroups (P16.1, P16.4: groups part a vector) is proved in its second form: for all points, all names and either way, together of a bulk of 1048576 at the most, the law's function returns true and its arguments read as before. Conditions: those of the row's own form (the translation is for linux/amd64; each string and slice lies within the form's reach; the two tables of unicode/utf8 start as Go's library lays them). -/
import Derived.ArgAppend
import Derived.Below
import Derived.BigQuiet
import Derived.ChangeArms
import Derived.ChangeOld
import Derived.Deep.AppendLies
import Derived.Deep.CutBlock
import Derived.Deep.DeepCutAuto
import Derived.Deep.DeepHandedRow
import Derived.Deep.Draws
import Derived.Deep.LoopGhost
import Derived.Deep.OwnRows
import Derived.Deep.QuietTactic
import Derived.Deep.RegionHeld3
import Derived.Deep.SlicePairs
import Derived.Ground.NamesProg
import Derived.Ground.SlsfProg
import Derived.IntWalk
import Derived.JoinedOf
import Derived.KernelRfl
import Derived.LaidHandle
import Derived.Laws.BitsLemmas
import Derived.Laws.BytesArg
import Derived.Laws.Externs
import Derived.Laws.FloatArith
import Derived.Laws.IdiomCopy
import Derived.Laws.MakeOwn
import Derived.Laws.OwnMore
import Derived.Laws.Rows
import Derived.Laws.Slices
import Derived.Laws.StructEq
import Derived.Lay
import Derived.Lib.AppendStr
import Derived.Lib.ConvBytes
import Derived.Lib.LaidU8T
import Derived.Lib.TrimUEq
import Derived.Lib.ValidLaws
import Derived.Maps.AppendAt
import Derived.Maps.OwnOps
import Derived.Maps.OwnSet
import Derived.Maps.Views
import Derived.OpenShut
import Derived.OrdersHeld
import Derived.Outline
import Derived.OwnWalk
import Derived.ProofKit
import Derived.RowKit
import Derived.RowKit3
import Derived.Shelf.Bits.Mul64
import Derived.Shelf.SlSortCmp.NoneTotal
import Derived.Shelf.Small.Strs
import Derived.Shelf.Strings.Search1
import Derived.Shelf.Unicode.ValidAny
import Derived.ShutString
import Derived.SizedLaws
import Derived.SliceStrings
import Derived.Sort.Grow
import Derived.Tactics
import Derived.Test.YtoncpeadbhgmaaaGreatDoorCards
import Derived.Test.YtoncpeadbhgmaaaGreatDoorChecked
import Derived.Test.YtoncpeadbhgmaaaGreatDoorGs0
import Derived.Test.YtoncpeadbhgmaaaGreatDoorGs1
import Derived.Test.YtoncpeadbhgmaaaGreatDoorGs10
import Derived.Test.YtoncpeadbhgmaaaGreatDoorGs11
import Derived.Test.YtoncpeadbhgmaaaGreatDoorGs12
import Derived.Test.YtoncpeadbhgmaaaGreatDoorGs13
import Derived.Test.YtoncpeadbhgmaaaGreatDoorGs14
import Derived.Test.YtoncpeadbhgmaaaGreatDoorGs15
import Derived.Test.YtoncpeadbhgmaaaGreatDoorGs16
import Derived.Test.YtoncpeadbhgmaaaGreatDoorGs17
import Derived.Test.YtoncpeadbhgmaaaGreatDoorGs2
import Derived.Test.YtoncpeadbhgmaaaGreatDoorGs3
import Derived.Test.YtoncpeadbhgmaaaGreatDoorGs4
import Derived.Test.YtoncpeadbhgmaaaGreatDoorGs5
import Derived.Test.YtoncpeadbhgmaaaGreatDoorGs6
import Derived.Test.YtoncpeadbhgmaaaGreatDoorGs7
import Derived.Test.YtoncpeadbhgmaaaGreatDoorGs8
import Derived.Test.YtoncpeadbhgmaaaGreatDoorGs9
import Derived.Test.YtoncpeadbhgmaaaGreatDoorProg
import Derived.Test.YtoncpeadbhgmaaaGreatDoorRows
import Derived.Test.YtoncpeadbhgmaaaGreatDoorTie
import Derived.WalkKit
import Derived.WalkSpells
import Derived.WideLaws
set_option linter.unusedVariables false
set_option linter.unusedSimpArgs false
namespace Go.Proofs.YtoncpeadbhgmaaaGreatDoor.G
open Go.ChangeShapes Go.WideShapes Go.ChangeAt Go.RowKit Go.Shelf Go.Lib

theorem pinnedProg2 : Tryz.pinned.checked.prog = Tryz.prog := rfl
theorem aggrGroups_closed2 : joinedFacts Tryz.pinned.checked.prog 10 Tryz.f10 (Rows.OpenSpec.upto Rows.aggrGroupsSpec).bare Rows.aggrGroupsUptoRow = true := by
  rw [pinnedProg2]; exact aggrGroupsUpto_closed
theorem aggrGroups_said : Rows.AggrGroupsUptoSaid := by
  refine OpenClaim.holds_of_cond (p := Tryz.pinned) (s := Rows.OpenSpec.upto Rows.aggrGroupsSpec) (c := Rows.aggrGroupsUptoRow) 10 Tryz.f10 rfl rfl rfl rfl rfl rfl rfl ⟨rfl, rfl, rfl, rfl, rfl⟩ rfl rfl rfl rfl rfl ?_ ?_ aggrGroups_closed2 ?_ ?_ ?_
  · kernel_rfl
  · exact Tryz.func10
  · exact of_decide_eq_true (by kernel_rfl)
  · unfold Func.isWrapper; first | (rw [if_pos (by decide +kernel)]; kernel_rfl) | (rw [if_neg (by decide +kernel)]; exact ⟨rfl, rfl⟩)
  · exact fun os started H enc _ F => by rw [OpenClaim.pre_eq_preRow]; exact aggrGroups_lifted os started H enc F
theorem aggrGroups_plain (f : FuncId) (fn : Func) (hf : Tryz.pinned.checked.prog.funcNamed "tocsin/tocsinlaw16.AggrGroups" = some f) (hfn : Tryz.pinned.checked.prog.funcs[f]? = some fn) :
    true = Tryz.pinned.checked.prog.looks [] ∧ ∀ (j : Nat) t, fn.params[j]? = some t → Tryz.pinned.checked.prog.wantsStandIn t = false := by
  obtain rfl : f = 10 := Option.some.inj ((show Tryz.prog.funcNamed "tocsin/tocsinlaw16.AggrGroups" = some 10 by kernel_rfl).symm.trans hf) |>.symm
  obtain rfl : fn = Tryz.f10 := (Option.some.inj (Tryz.func10.symm.trans hfn)).symm
  refine ⟨by kernel_rfl, fun j t ht => ?_⟩
  rw [Tryz.params10] at ht
  have hm := Array.mem_of_getElem? ht
  simp only [List.mem_toArray, List.mem_cons, List.not_mem_nil, or_false] at hm
  rcases hm with rfl | rfl | rfl
  · exact (show Tryz.prog.wantsStandIn 22 = false by kernel_rfl)
  · exact (show Tryz.prog.wantsStandIn 23 = false by kernel_rfl)
  · exact (show Tryz.prog.wantsStandIn 4 = false by kernel_rfl)
/-- The card. -/
theorem aggrGroups_card : Rows.AggrGroupsUptoCardSaid :=
  Claim7.holds_tied_plain_at .later [] _ _ _ _ aggrGroups_said (fun _ h => by cases h) (by kernel_rfl) (fun _ h => by cases h) aggrGroupsUpto_row_tie rfl ⟨rfl, rfl⟩ (by kernel_rfl) rfl aggrGroups_plain (by kernel_rfl)
end Go.Proofs.YtoncpeadbhgmaaaGreatDoor.G

