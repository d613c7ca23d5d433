/- Parts of the proof of AggrGroups. -/
import Derived.ArgAppend
import Derived.Below
import Derived.BigQuiet
import Derived.Deep.AppendLies
import Derived.Deep.CutBlock
import Derived.Deep.DeepCutAuto
import Derived.Deep.Draws
import Derived.Deep.LoopGhost
import Derived.Deep.OwnRows
import Derived.Deep.QuietTactic
import Derived.Deep.RegionHeld3
import Derived.Ground.NamesProg
import Derived.Ground.SlsfProg
import Derived.IntWalk
import Derived.KernelRfl
import Derived.Laws.BitsLemmas
import Derived.Laws.BytesArg
import Derived.Laws.Externs
import Derived.Laws.IdiomCopy
import Derived.Laws.MakeOwn
import Derived.Laws.OwnMore
import Derived.Laws.Rows
import Derived.Laws.Slices
import Derived.Laws.StructEq
import Derived.Lib.AppendStr
import Derived.Lib.ConvBytes
import Derived.Maps.AppendAt
import Derived.Maps.OwnOps
import Derived.Maps.OwnSet
import Derived.Maps.Views
import Derived.OrdersHeld
import Derived.Outline
import Derived.OwnWalk
import Derived.RowKit
import Derived.RowKit3
import Derived.Shelf.Bits.Mul64
import Derived.Shelf.SlSortCmp.NoneTotal
import Derived.Shelf.Small.Strs
import Derived.Shelf.Strings.Search1
import Derived.Shelf.Unicode.ValidAny
import Derived.Sort.Grow
import Derived.Tactics
import Derived.Test.YtoncpeadbhgmaaaGreatDoorGs0
import Derived.Test.YtoncpeadbhgmaaaGreatDoorGs1
import Derived.Test.YtoncpeadbhgmaaaGreatDoorGs3
import Derived.Test.YtoncpeadbhgmaaaGreatDoorGs4
import Derived.Test.YtoncpeadbhgmaaaGreatDoorGs5
import Derived.Test.YtoncpeadbhgmaaaGreatDoorGs6
import Derived.Test.YtoncpeadbhgmaaaGreatDoorGs7
import Derived.Test.YtoncpeadbhgmaaaGreatDoorProg
import Derived.WalkKit
import Derived.WalkSpells
import Derived.WideLaws
namespace Go.Proofs.YtoncpeadbhgmaaaGreatDoor.G
open Go.RowKit Go.Proofs.YtoncpeadbhgmaaaGreatDoorW.PrintWords Go.Proofs.YtoncpeadbhgmaaaGreatDoorW.PrintLast Go.Proofs.YtoncpeadbhgmaaaGreatDoorW.PrintMore
attribute [local go_sem] max2_int min2_int max_two min_two max_three min_three max_four min_four   -- for this text's walks alone
set_option linter.unusedVariables false
set_option linter.unusedSimpArgs false

def labels_Without.f (k : Nat) (l0 : List (S89)) (l1 : List ByteArray) : Option ((List (S89)) × Int) := (labels_right.f k l0).bind fun t114 => (if t114 = 0 then ((labels_pick.f k l0 false l1).bind fun t115 => (some (t115, 0))) else (some (([] : List (S89)), t114)))
set_option maxHeartbeats 8000000 in
set_option maxRecDepth 100000 in
theorem labels_Without.calls (k : Nat) (A0 : Option Addr) (c0 : Nat) (l0 : List (S89)) (A1 : Option Addr) (c1 : Nat) (l1 : List ByteArray) (r1 : List (S89)) (r2 : Int) (w : World) (hr0 : Kd.C k89 w A0 l0.length l0) (hc0 : l0.length ≤ c0) (hr1 : Kd.C Kd.string w A1 l1.length l1) (hc1 : l1.length ≤ c1) (hT : Tabs w) (h : labels_Without.f k l0 l1 = some (r1, r2)) :
    Calls Tryz.prog 108 #[.slice A0 l0.length c0, .slice A1 l1.length c1] w fun e w' => ∃ v0_ : Value, e = .returned (.tuple #[v0_, .int .i64 r2]) ∧ Kd.R k89 89 w' w.heap.size (fun _ => True) v0_ r1 ∧ Below w.heap.size w w' := by
  have HR0 := Aside0.mk hr0
  have HC0 := Aside0.mk hc0
  clear hr0 hc0
  have HR1 := Aside0.mk hr1
  have HC1 := Aside0.mk hc1
  clear hr1 hc1
  have HT := Aside0.mk hT
  clear hT
  have HB := Aside0.mk (Below.refl w.heap.size w)
  have H : ((labels_right.f k l0).bind fun t114 => (if t114 = 0 then ((labels_pick.f k l0 false l1).bind fun t115 => (some (t115, 0))) else (some (([] : List (S89)), t114)))) = some (r1, r2) := h
  clear h
  replace H := Option.bind_eq_some_iff.mp H
  obtain ⟨t114, A30, H⟩ := H
  replace H : (if t114 = 0 then ((labels_pick.f k l0 false l1).bind fun t115 => (some (t115, 0))) else (some (([] : List (S89)), t114))) = some (r1, r2) := H
  have A3 := Aside0.mk A30
  clear A30
  by_cases c4 : t114 = 0
  · rw [if_pos c4] at H
    have c4b0 : (t114 == 0) = true := beq_iff_eq.mpr c4
    have c4b1 : (t114 != 0) = false := bne_eq_false_iff_eq.mpr c4
    clear c4
    replace H := Option.bind_eq_some_iff.mp H
    obtain ⟨t115, A50, H⟩ := H
    replace H : (some (t115, 0)) = some (r1, r2) := H
    have A5 := Aside0.mk A50
    clear A50
    simp only [Option.some.injEq, Prod.mk.injEq] at H
    obtain ⟨rfl, rfl⟩ := H
    go_enter Tryz.func108, Tryz.ntmps108
    go_wp2_with (first | ((with_reducible refine gate_callee (f := 142) rfl ?_); refine goesL_ (some 8) rfl rfl Tryz.func142 (by kernel_rfl) rfl #[.slice A0 l0.length c0] rfl (by (try simp only [List.map_toArray, List.map_cons, List.map_nil]); first | done | rfl | (simp only [List.length_drop, List.length_take]; rfl)) ?_; (with_reducible refine (labels_right.calls k _ _ l0 t114 _ ?side1 ?side2 ?side3 A3.out).mono ?_); (case side1 => repeat (first | exact HR0.out | (with_reducible refine Kd.C_alloc ?_ _) | (with_reducible refine Kd.C_drewN ?_ _) | (with_reducible refine Kd.C_drew ?_))); (case side2 => exact HC0.out); (case side3 => first | exact HT.out | exact tabs_below HT.out (by repeat (first | (with_reducible first | exact HB.out | apply below_alloc | apply pw_below_drewN | apply below_drew1) | exact HB.out))); rintro e w6 ⟨rfl, hb⟩; refine ⟨_, rfl, ?_⟩; have n0_ := Aside0.mk (below_step (by repeat (first | (with_reducible first | exact HB.out | apply below_alloc | apply pw_below_drewN | apply below_drew1) | exact HB.out)) hb); clear HB; have HB := n0_; clear n0_; (try clear hb); (try clear hb2); (try clear hk); (try clear hi)) | ((with_reducible refine gate_callee (f := 151) rfl ?_); refine goesL_ (some 14) rfl rfl Tryz.func151 (by kernel_rfl) rfl #[.slice A0 l0.length c0, .bool false, .slice A1 l1.length c1] rfl (by (try simp only [List.map_toArray, List.map_cons, List.map_nil]); first | done | rfl | (simp only [List.length_drop, List.length_take]; rfl)) ?_; (with_reducible refine (labels_pick.calls k _ _ l0 false _ _ l1 t115 _ ?side1 ?side2 ?side3 ?side4 A5.out).mono ?_); (case side1 => repeat (first | exact (Kd.C_below HR0.out HB.out) | (with_reducible refine Kd.C_alloc ?_ _) | (with_reducible refine Kd.C_drewN ?_ _) | (with_reducible refine Kd.C_drew ?_))); (case side2 => exact HC0.out); (case side3 => repeat (first | exact (Kd.C_below HR1.out HB.out) | (with_reducible refine Kd.C_alloc ?_ _) | (with_reducible refine Kd.C_drewN ?_ _) | (with_reducible refine Kd.C_drew ?_))); (case side4 => exact HC1.out); rintro e w7 ⟨v116, rfl, ho0, hb⟩; refine ⟨_, rfl, ?_⟩; have n0_ := Aside0.mk (Kd.R_lower ho0 (below_size (by repeat (first | (with_reducible first | exact HB.out | apply below_alloc | apply pw_below_drewN | apply below_drew1) | exact HB.out)))); have n1_ := Aside0.mk (below_step (by repeat (first | (with_reducible first | exact HB.out | apply below_alloc | apply pw_below_drewN | apply below_drew1) | exact HB.out)) hb); clear HB; have HO117 := n0_; have HB := n1_; clear n0_ n1_; (try clear hb); (try clear hb2); (try clear hk); (try clear hi); (try clear ho0)))
    go_ret2
    exact ⟨_, by first | rfl | (simp [errW_none, errW_some] <;> rfl) | (simp [*, errW_none, errW_some] <;> rfl), by (with_reducible repeat (first | apply Kd.R_alloc | apply Kd.R_drewN | apply Kd.R_drew)); exact HO117.out, by repeat (first | (with_reducible first | exact HB.out | apply below_alloc | apply pw_below_drewN | apply below_drew1) | exact HB.out)⟩
  · rw [if_neg c4] at H
    have c4b0 : (t114 == 0) = false := beq_eq_false_iff_ne.mpr c4
    have c4b1 : (t114 != 0) = true := bne_iff_ne.mpr c4
    simp only [Option.some.injEq, Prod.mk.injEq] at H
    obtain ⟨rfl, rfl⟩ := H
    go_enter Tryz.func108, Tryz.ntmps108
    go_wp2_with (first | ((with_reducible refine gate_callee (f := 142) rfl ?_); refine goesL_ (some 8) rfl rfl Tryz.func142 (by kernel_rfl) rfl #[.slice A0 l0.length c0] rfl (by (try simp only [List.map_toArray, List.map_cons, List.map_nil]); first | done | rfl | (simp only [List.length_drop, List.length_take]; rfl)) ?_; (with_reducible refine (labels_right.calls k _ _ l0 t114 _ ?side1 ?side2 ?side3 A3.out).mono ?_); (case side1 => repeat (first | exact HR0.out | (with_reducible refine Kd.C_alloc ?_ _) | (with_reducible refine Kd.C_drewN ?_ _) | (with_reducible refine Kd.C_drew ?_))); (case side2 => exact HC0.out); (case side3 => first | exact HT.out | exact tabs_below HT.out (by repeat (first | (with_reducible first | exact HB.out | apply below_alloc | apply pw_below_drewN | apply below_drew1) | exact HB.out))); rintro e w8 ⟨rfl, hb⟩; refine ⟨_, rfl, ?_⟩; have n0_ := Aside0.mk (below_step (by repeat (first | (with_reducible first | exact HB.out | apply below_alloc | apply pw_below_drewN | apply below_drew1) | exact HB.out)) hb); clear HB; have HB := n0_; clear n0_; (try clear hb); (try clear hb2); (try clear hk); (try clear hi)))
    go_ret2
    exact ⟨_, by first | rfl | (simp [errW_none, errW_some] <;> rfl) | (simp [*, errW_none, errW_some] <;> rfl), by first | exact Kd.R_nil _ _ _ _ _ | exact Kd.N_nil _ _ _ _ _ | exact Kd.V_nil _ _ _ _ _ | exact Kd.Q_nil _ _ _ _ _ | exact Kd.S_nil _ _ _ _ _, by repeat (first | (with_reducible first | exact HB.out | apply below_alloc | apply pw_below_drewN | apply below_drew1) | exact HB.out)⟩

def aggr_group.f (k : Nat) (l0 : List (S89)) (l1 : List ByteArray) (a2 : Bool) : Option ((List (S89))) := if a2 = true then ((slices_Clone_string_string.f l1).bind fun t118 => (if t118.length < 8796093022208 then ((labels_Without.f k l0 (t118 ++ [(⟨#[95, 95, 110, 97, 109, 101, 95, 95]⟩ : ByteArray)])).bind fun bt124 => (some bt124.1)) else (none))) else ((labels_Keep.f k l0 l1).bind fun bt128 => (some bt128.1))
set_option maxHeartbeats 8000000 in
set_option maxRecDepth 100000 in
theorem aggr_group.calls (k : Nat) (A0 : Option Addr) (c0 : Nat) (l0 : List (S89)) (A1 : Option Addr) (c1 : Nat) (l1 : List ByteArray) (a2 : Bool) (r : List (S89)) (w : World) (hr0 : Kd.C k89 w A0 l0.length l0) (hc0 : l0.length ≤ c0) (hr1 : Kd.C Kd.string w A1 l1.length l1) (hc1 : l1.length ≤ c1) (hT : Tabs w) (h : aggr_group.f k l0 l1 a2 = some r) :
    Calls Tryz.prog 83 #[.slice A0 l0.length c0, .slice A1 l1.length c1, .bool a2] w fun e w' => ∃ v0_ : Value, e = .returned (v0_) ∧ Kd.R k89 89 w' w.heap.size (fun _ => True) v0_ r ∧ Below w.heap.size w w' := by
  have HR0 := Aside0.mk hr0
  have HC0 := Aside0.mk hc0
  clear hr0 hc0
  have HR1 := Aside0.mk hr1
  have HC1 := Aside0.mk hc1
  clear hr1 hc1
  have HT := Aside0.mk hT
  clear hT
  have HB := Aside0.mk (Below.refl w.heap.size w)
  have H : (if a2 = true then ((slices_Clone_string_string.f l1).bind fun t118 => (if t118.length < 8796093022208 then ((labels_Without.f k l0 (t118 ++ [(⟨#[95, 95, 110, 97, 109, 101, 95, 95]⟩ : ByteArray)])).bind fun bt124 => (some bt124.1)) else (none))) else ((labels_Keep.f k l0 l1).bind fun bt128 => (some bt128.1))) = some r := h
  clear h
  by_cases c4 : a2 = true
  · subst c4
    have H1 : ((slices_Clone_string_string.f l1).bind fun t118 => (if t118.length < 8796093022208 then ((labels_Without.f k l0 (t118 ++ [(⟨#[95, 95, 110, 97, 109, 101, 95, 95]⟩ : ByteArray)])).bind fun bt124 => (some bt124.1)) else (none))) = some r := by rw [if_pos rfl] at H; exact H
    clear H
    have H := H1
    clear H1
    replace H := Option.bind_eq_some_iff.mp H
    obtain ⟨t118, A50, H⟩ := H
    replace H : (if t118.length < 8796093022208 then ((labels_Without.f k l0 (t118 ++ [(⟨#[95, 95, 110, 97, 109, 101, 95, 95]⟩ : ByteArray)])).bind fun bt124 => (some bt124.1)) else (none)) = some r := H
    have A5 := Aside0.mk A50
    clear A50
    by_cases c6 : t118.length < 8796093022208
    · rw [if_pos c6] at H
      have LMc6 := Aside0.mk c6
      clear c6
      obtain ⟨y121, hy121⟩ : ∃ y_ : List ByteArray, y_ = (t118 ++ [(⟨#[95, 95, 110, 97, 109, 101, 95, 95]⟩ : ByteArray)]) := ⟨_, rfl⟩
      replace H : ((labels_Without.f k l0 y121).bind fun bt124 => (some bt124.1)) = some r := by first | (rw [hy121]; with_reducible exact H) | (have H2_ := (Option.bind_some _ _).symm.trans H; rw [hy121]; with_reducible exact H2_) | (have H2_ := (Option.bind_some _ _).symm.trans H; with_reducible exact H2_) | with_reducible exact H | (rw [hy121]; exact H) | exact H
      have Ny121 := Aside0.mk hy121
      clear hy121
      replace H := Option.bind_eq_some_iff.mp H
      obtain ⟨⟨t124, t125⟩, A70, H⟩ := H
      replace H : (some t124) = some r := H
      have A7 := Aside0.mk A70
      clear A70
      obtain rfl := Option.some.inj H
      go_enter Tryz.func83, Tryz.ntmps83
      go_wp2_with (first | ((with_reducible refine gate_callee (f := 109) rfl ?_); refine goesL_ (some 15) rfl rfl Tryz.func109 (by kernel_rfl) rfl #[.slice A1 l1.length c1] rfl (by (try simp only [List.map_toArray, List.map_cons, List.map_nil]); first | done | rfl | (simp only [List.length_drop, List.length_take]; rfl)) ?_; (with_reducible refine (slices_Clone_string_string.calls _ _ l1 t118 _ ?side1 ?side2 A5.out).mono ?_); (case side1 => repeat (first | exact HR1.out | (with_reducible refine Kd.C_alloc ?_ _) | (with_reducible refine Kd.C_drewN ?_ _) | (with_reducible refine Kd.C_drew ?_))); (case side2 => exact HC1.out); rintro e w8 ⟨v119, rfl, ho0, hb⟩; refine ⟨_, rfl, ?_⟩; have n0_ := Aside0.mk (Kd.R_lower ho0 (below_size (by repeat (first | (with_reducible first | exact HB.out | apply below_alloc | apply pw_below_drewN | apply below_drew1) | exact HB.out)))); have n1_ := Aside0.mk (below_step (by repeat (first | (with_reducible first | exact HB.out | apply below_alloc | apply pw_below_drewN | apply below_drew1) | exact HB.out)) hb); clear HB; have HO120 := n0_; have HB := n1_; clear n0_ n1_; (try clear hb); (try clear hb2); (try clear hk); (try clear hi); (try clear ho0)) | ((with_reducible refine gate_builtin (b := .append) (xs := #[.tmp 15, .tmp 16]) rfl ?_); at_builtin; refine Kd.R_append Kd.string (w0 := w) w.heap.size rfl (.tmp 15) (.tmp 16) 23 9 (.string ⟨#[]⟩) 16 rfl Tryz.underlying23 info9 rfl (by decide) (by omega) v119 t118 (⟨#[95, 95, 110, 97, 109, 101, 95, 95]⟩ : ByteArray) [.string (⟨#[95, 95, 110, 97, 109, 101, 95, 95]⟩ : ByteArray)] (fun _ => True) (fun _ => False) rfl rfl ?aP (fun _ hk => hk.elim) ?aF ?aO ?aB ?aS ?aL ?_; (case aP => exact rfl); (case aB => exact (by repeat (first | (with_reducible first | exact HB.out | apply below_alloc | apply pw_below_drewN | apply below_drew1) | exact HB.out))); (case aF => exact (fun _ _ => trivial)); (case aO => exact (by (with_reducible repeat (first | apply Kd.R_alloc | apply Kd.R_drewN | apply Kd.R_drew)); exact HO120.out)); (case aS => exact (below_size (by repeat (first | (with_reducible first | exact HB.out | apply below_alloc | apply pw_below_drewN | apply below_drew1) | exact HB.out)))); (case aL => have := LMc6.out; omega); intro v122 w9 ho hb hg hat; rw [← Ny121.out] at ho; have n0_ := Aside0.mk (hb); have n1_ := Aside0.mk (ho); clear HB; clear HO120; have HB := n0_; have HO123 := n1_; clear n0_ n1_; clear ho hb hg hat; obtain ⟨Ao10, co10, eo10⟩ := Kd.R_slice HO123.out; subst eo10) | ((with_reducible refine gate_callee (f := 108) rfl ?_); refine goesL_ (some 18) rfl rfl Tryz.func108 (by kernel_rfl) rfl #[.slice A0 l0.length c0, .slice Ao10 y121.length co10] rfl (by (try simp only [List.map_toArray, List.map_cons, List.map_nil]); first | done | rfl | (simp only [List.length_drop, List.length_take]; rfl)) ?_; (with_reducible refine (labels_Without.calls k _ _ l0 _ _ y121 t124 t125 _ ?side1 ?side2 ?side3 ?side4 ?side5 A7.out).mono ?_); (case side1 => repeat (first | exact (Kd.C_below HR0.out HB.out) | (with_reducible refine Kd.C_alloc ?_ _) | (with_reducible refine Kd.C_drewN ?_ _) | (with_reducible refine Kd.C_drew ?_))); (case side2 => exact HC0.out); (case side3 => repeat (first | exact (Kd.R_reads' HO123.out).2.2 | (with_reducible refine Kd.C_alloc ?_ _) | (with_reducible refine Kd.C_drewN ?_ _) | (with_reducible refine Kd.C_drew ?_))); (case side4 => exact (Kd.R_reads' HO123.out).2.1); (case side5 => first | exact HT.out | exact tabs_below HT.out (by repeat (first | (with_reducible first | exact HB.out | apply below_alloc | apply pw_below_drewN | apply below_drew1) | exact HB.out))); rintro e w11 ⟨v126, rfl, ho0, hb⟩; refine ⟨_, rfl, ?_⟩; have n0_ := Aside0.mk (Kd.R_below (by (with_reducible repeat (first | apply Kd.R_alloc | apply Kd.R_drewN | apply Kd.R_drew)); exact HO123.out) hb); have n1_ := Aside0.mk (Kd.R_lower ho0 (below_size (by repeat (first | (with_reducible first | exact HB.out | apply below_alloc | apply pw_below_drewN | apply below_drew1) | exact HB.out)))); have n2_ := Aside0.mk (below_step (by repeat (first | (with_reducible first | exact HB.out | apply below_alloc | apply pw_below_drewN | apply below_drew1) | exact HB.out)) hb); clear HO123; clear HB; have HO123 := n0_; have HO127 := n1_; have HB := n2_; clear n0_ n1_ n2_; (try clear hb); (try clear hb2); (try clear hk); (try clear hi); (try clear ho0)))
      go_ret
      exact ⟨_, by first | rfl | (simp [errW_none, errW_some] <;> rfl) | (simp [*, errW_none, errW_some] <;> rfl), by (with_reducible repeat (first | apply Kd.R_alloc | apply Kd.R_drewN | apply Kd.R_drew)); exact HO127.out, by repeat (first | (with_reducible first | exact HB.out | apply below_alloc | apply pw_below_drewN | apply below_drew1) | exact HB.out)⟩
    · rw [if_neg c6] at H
      exact absurd H (by simp)
  · replace c4 := Bool.eq_false_iff.mpr c4
    subst c4
    have H1 : ((labels_Keep.f k l0 l1).bind fun bt128 => (some bt128.1)) = some r := by rw [if_neg (show ¬ (false = true) by decide)] at H; exact H
    clear H
    have H := H1
    clear H1
    replace H := Option.bind_eq_some_iff.mp H
    obtain ⟨⟨t128, t129⟩, A120, H⟩ := H
    replace H : (some t128) = some r := H
    have A12 := Aside0.mk A120
    clear A120
    obtain rfl := Option.some.inj H
    go_enter Tryz.func83, Tryz.ntmps83
    go_wp2_with (first | ((with_reducible refine gate_callee (f := 107) rfl ?_); refine goesL_ (some 25) rfl rfl Tryz.func107 (by kernel_rfl) rfl #[.slice A0 l0.length c0, .slice A1 l1.length c1] rfl (by (try simp only [List.map_toArray, List.map_cons, List.map_nil]); first | done | rfl | (simp only [List.length_drop, List.length_take]; rfl)) ?_; (with_reducible refine (labels_Keep.calls k _ _ l0 _ _ l1 t128 t129 _ ?side1 ?side2 ?side3 ?side4 ?side5 A12.out).mono ?_); (case side1 => repeat (first | exact HR0.out | (with_reducible refine Kd.C_alloc ?_ _) | (with_reducible refine Kd.C_drewN ?_ _) | (with_reducible refine Kd.C_drew ?_))); (case side2 => exact HC0.out); (case side3 => repeat (first | exact HR1.out | (with_reducible refine Kd.C_alloc ?_ _) | (with_reducible refine Kd.C_drewN ?_ _) | (with_reducible refine Kd.C_drew ?_))); (case side4 => exact HC1.out); (case side5 => first | exact HT.out | exact tabs_below HT.out (by repeat (first | (with_reducible first | exact HB.out | apply below_alloc | apply pw_below_drewN | apply below_drew1) | exact HB.out))); rintro e w13 ⟨v130, rfl, ho0, hb⟩; refine ⟨_, rfl, ?_⟩; have n0_ := Aside0.mk (Kd.R_lower ho0 (below_size (by repeat (first | (with_reducible first | exact HB.out | apply below_alloc | apply pw_below_drewN | apply below_drew1) | exact HB.out)))); have n1_ := Aside0.mk (below_step (by repeat (first | (with_reducible first | exact HB.out | apply below_alloc | apply pw_below_drewN | apply below_drew1) | exact HB.out)) hb); clear HB; have HO131 := n0_; have HB := n1_; clear n0_ n1_; (try clear hb); (try clear hb2); (try clear hk); (try clear hi); (try clear ho0)))
    go_ret
    exact ⟨_, by first | rfl | (simp [errW_none, errW_some] <;> rfl) | (simp [*, errW_none, errW_some] <;> rfl), by (with_reducible repeat (first | apply Kd.R_alloc | apply Kd.R_drewN | apply Kd.R_drew)); exact HO131.out, by repeat (first | (with_reducible first | exact HB.out | apply below_alloc | apply pw_below_drewN | apply below_drew1) | exact HB.out)⟩

def aggr_wrong.l0 : Nat → List ByteArray → Int → Int → Option (Int)
  | 0, _, _, _ => none
  | k + 1, x5, x6, x7 => if x7 < x6 then (if 0 ≤ x7 then (if x7 < (x5.length : Int) then ((labels_Name.f (rdOf ByteArray.empty x5 x7)).bind fun t133 => (if t133 = true then (aggr_wrong.l0 k x5 x6 (wrap64 (x7 + 1))) else (some 40))) else (none)) else (none)) else (some 0)
def aggr_wrong.f (k : Nat) (l0 : List ByteArray) : Option (Int) := aggr_wrong.l0 k l0 (l0.length : Int) 0
set_option maxHeartbeats 8000000 in
set_option maxRecDepth 100000 in
theorem aggr_wrong.calls (k : Nat) (A0 : Option Addr) (c0 : Nat) (l0 : List ByteArray) (r : Int) (w : World) (hr0 : Kd.C Kd.string w A0 l0.length l0) (hc0 : l0.length ≤ c0) (h : aggr_wrong.f k l0 = some r) :
    Calls Tryz.prog 85 #[.slice A0 l0.length c0] w fun e w' => e = .returned (.int .i64 r) ∧ Below w.heap.size w w' := by
  have HR0 := Aside0.mk hr0
  have HC0 := Aside0.mk hc0
  clear hr0 hc0
  have HB := Aside0.mk (Below.refl w.heap.size w)
  have H : (aggr_wrong.l0 k l0 (l0.length : Int) 0) = some r := h
  clear h
  have H' := Aside0.mk H
  clear H
  go_enter Tryz.func85, Tryz.ntmps85
  go_wp2
  go_loopg [7] k (fun kq v7 w' => ∃ (x7_1 : Int), v7 = .int .i64 x7_1 ∧ Aside0 (aggr_wrong.l0 kq l0 (l0.length : Int) x7_1 = some r) ∧ Aside0 (kq ≤ k) ∧ Aside0 (Below w.heap.size w w'))
  case atStart => exact ⟨(0), (by first | rfl | (simp; done) | (simp [*]; done)), H', ⟨Nat.le_refl _⟩, ⟨by repeat (first | (with_reducible first | exact HB.out | apply below_alloc | apply pw_below_drewN | apply below_drew1) | exact HB.out)⟩⟩
  case round =>
    clear H'
    obtain ⟨x7_1, rfl, HA, HK1, HB⟩ := hrel
    cases gk with
    | zero => exact absurd HA.out (by simp [aggr_wrong.l0])
    | succ k1 =>
      have H := HA.out
      clear HA
      simp only [aggr_wrong.l0] at H
      by_cases c2 : x7_1 < (l0.length : Int)
      · rw [if_pos c2] at H
        have c2b0 : decide (x7_1 < (l0.length : Int)) = true := decide_eq_true c2
        clear c2
        by_cases c3 : 0 ≤ x7_1
        · rw [if_pos c3] at H
          have c3b0 : decide (0 ≤ x7_1) = true := decide_eq_true c3
          clear c3
          by_cases c4 : x7_1 < (l0.length : Int)
          · rw [if_pos c4] at H
            have c4b0 : decide (x7_1 < (l0.length : Int)) = true := decide_eq_true c4
            clear c4
            replace H := Option.bind_eq_some_iff.mp H
            obtain ⟨t133, A50, H⟩ := H
            replace H : (if t133 = true then (aggr_wrong.l0 k1 l0 (l0.length : Int) (wrap64 (x7_1 + 1))) else (some 40)) = some r := H
            have A5 := Aside0.mk A50
            clear A50
            by_cases c6 : t133 = true
            · subst c6
              have H1 : (aggr_wrong.l0 k1 l0 (l0.length : Int) (wrap64 (x7_1 + 1))) = some r := by rw [if_pos rfl] at H; exact H
              clear H
              have H := H1
              clear H1
              have H' := Aside0.mk H
              clear H
              have p132 : 0 ≤ (x7_1 : Int) := of_decide_eq_true (by first | (with_reducible assumption) | assumption)
              have q132 : x7_1 < (l0.length : Int) := of_decide_eq_true (by first | (with_reducible assumption) | assumption)
              obtain ⟨ad132, e132, hx132_0⟩ := Kd.at_string HR0.out x7_1 p132 q132
              cases e132
              replace hx132_0 := (HB.out.cell (World.block_lt_of_cell? w _ hx132_0)).trans hx132_0
              replace p132 := eq_true p132
              replace q132 := eq_true q132
              go_wp2_with (first | ((with_reducible refine gate_callee (f := 99) rfl ?_); refine goesL_ (some 12) rfl rfl Tryz.func99 (by kernel_rfl) rfl #[.string (rdOf ByteArray.empty l0 x7_1)] rfl (by (try simp only [List.map_toArray, List.map_cons, List.map_nil]); first | done | rfl | (simp only [List.length_drop, List.length_take]; rfl)) ?_; (with_reducible refine (labels_Name.calls (rdOf ByteArray.empty l0 x7_1) true _ A5.out).mono ?_); rintro e w7 ⟨rfl, hb⟩; refine ⟨_, rfl, ?_⟩; have n0_ := Aside0.mk (below_step (by repeat (first | (with_reducible first | exact HB.out | apply below_alloc | apply pw_below_drewN | apply below_drew1) | exact HB.out)) hb); clear HB; have HB := n0_; clear n0_; (try clear hb); (try clear hb2); (try clear hk); (try clear hi)))
              go_roundg k1
              case measure => have := HK1.out; omega
              case rel => exact ⟨(wrap64 (x7_1 + 1)), (by first | rfl | (simp; done) | (simp [*]; done)), H', ⟨by have := HK1.out; omega⟩, ⟨by repeat (first | (with_reducible first | exact HB.out | apply below_alloc | apply pw_below_drewN | apply below_drew1) | exact HB.out)⟩⟩
            · replace c6 := Bool.eq_false_iff.mpr c6
              subst c6
              have H1 : (some 40) = some r := by rw [if_neg (show ¬ (false = true) by decide)] at H; exact H
              clear H
              have H := H1
              clear H1
              obtain rfl := Option.some.inj H
              have p132 : 0 ≤ (x7_1 : Int) := of_decide_eq_true (by first | (with_reducible assumption) | assumption)
              have q132 : x7_1 < (l0.length : Int) := of_decide_eq_true (by first | (with_reducible assumption) | assumption)
              obtain ⟨ad132, e132, hx132_0⟩ := Kd.at_string HR0.out x7_1 p132 q132
              cases e132
              replace hx132_0 := (HB.out.cell (World.block_lt_of_cell? w _ hx132_0)).trans hx132_0
              replace p132 := eq_true p132
              replace q132 := eq_true q132
              go_wp2_with (first | ((with_reducible refine gate_callee (f := 99) rfl ?_); refine goesL_ (some 12) rfl rfl Tryz.func99 (by kernel_rfl) rfl #[.string (rdOf ByteArray.empty l0 x7_1)] rfl (by (try simp only [List.map_toArray, List.map_cons, List.map_nil]); first | done | rfl | (simp only [List.length_drop, List.length_take]; rfl)) ?_; (with_reducible refine (labels_Name.calls (rdOf ByteArray.empty l0 x7_1) false _ A5.out).mono ?_); rintro e w8 ⟨rfl, hb⟩; refine ⟨_, rfl, ?_⟩; have n0_ := Aside0.mk (below_step (by repeat (first | (with_reducible first | exact HB.out | apply below_alloc | apply pw_below_drewN | apply below_drew1) | exact HB.out)) hb); clear HB; have HB := n0_; clear n0_; (try clear hb); (try clear hb2); (try clear hk); (try clear hi)))
              go_ret
              exact ⟨by first | rfl | (simp [errW_none, errW_some] <;> rfl) | (simp [*, errW_none, errW_some] <;> rfl), by repeat (first | (with_reducible first | exact HB.out | apply below_alloc | apply pw_below_drewN | apply below_drew1) | exact HB.out)⟩
          · rw [if_neg c4] at H
            exact absurd H (by simp)
        · rw [if_neg c3] at H
          exact absurd H (by simp)
      · rw [if_neg c2] at H
        have c2b0 : decide (x7_1 < (l0.length : Int)) = false := decide_eq_false c2
        clear c2
        obtain rfl := Option.some.inj H
        go_wp2
        go_ret
        exact ⟨by first | rfl | (simp [errW_none, errW_some] <;> rfl) | (simp [*, errW_none, errW_some] <;> rfl), by repeat (first | (with_reducible first | exact HB.out | apply below_alloc | apply pw_below_drewN | apply below_drew1) | exact HB.out)⟩

def aggr_Group.f (k : Nat) (l0 : List (S89)) (l1 : List ByteArray) (a2 : Bool) : Option ((List (S89)) × Int) := (labels_Right.f k l0).bind fun bt134 => (if bt134.1 = 0 then ((aggr_wrong.f k l1).bind fun t136 => (if t136 = 0 then ((aggr_group.f k l0 l1 a2).bind fun t137 => (some (t137, 0))) else (some (([] : List (S89)), t136)))) else (some (([] : List (S89)), bt134.1)))
set_option maxHeartbeats 8000000 in
set_option maxRecDepth 100000 in
theorem aggr_Group.calls (k : Nat) (A0 : Option Addr) (c0 : Nat) (l0 : List (S89)) (A1 : Option Addr) (c1 : Nat) (l1 : List ByteArray) (a2 : Bool) (r1 : List (S89)) (r2 : Int) (w : World) (hr0 : Kd.C k89 w A0 l0.length l0) (hc0 : l0.length ≤ c0) (hr1 : Kd.C Kd.string w A1 l1.length l1) (hc1 : l1.length ≤ c1) (hT : Tabs w) (h : aggr_Group.f k l0 l1 a2 = some (r1, r2)) :
    Calls Tryz.prog 40 #[.slice A0 l0.length c0, .slice A1 l1.length c1, .bool a2] w fun e w' => ∃ v0_ : Value, e = .returned (.tuple #[v0_, .int .i64 r2]) ∧ Kd.R k89 89 w' w.heap.size (fun _ => True) v0_ r1 ∧ Below w.heap.size w w' := by
  have HR0 := Aside0.mk hr0
  have HC0 := Aside0.mk hc0
  clear hr0 hc0
  have HR1 := Aside0.mk hr1
  have HC1 := Aside0.mk hc1
  clear hr1 hc1
  have HT := Aside0.mk hT
  clear hT
  have HB := Aside0.mk (Below.refl w.heap.size w)
  have H : ((labels_Right.f k l0).bind fun bt134 => (if bt134.1 = 0 then ((aggr_wrong.f k l1).bind fun t136 => (if t136 = 0 then ((aggr_group.f k l0 l1 a2).bind fun t137 => (some (t137, 0))) else (some (([] : List (S89)), t136)))) else (some (([] : List (S89)), bt134.1)))) = some (r1, r2) := h
  clear h
  replace H := Option.bind_eq_some_iff.mp H
  obtain ⟨⟨t134, t135⟩, A40, H⟩ := H
  replace H : (if t134 = 0 then ((aggr_wrong.f k l1).bind fun t136 => (if t136 = 0 then ((aggr_group.f k l0 l1 a2).bind fun t137 => (some (t137, 0))) else (some (([] : List (S89)), t136)))) else (some (([] : List (S89)), t134))) = some (r1, r2) := H
  have A4 := Aside0.mk A40
  clear A40
  by_cases c5 : t134 = 0
  · rw [if_pos c5] at H
    have c5b0 : (t134 == 0) = true := beq_iff_eq.mpr c5
    have c5b1 : (t134 != 0) = false := bne_eq_false_iff_eq.mpr c5
    clear c5
    replace H := Option.bind_eq_some_iff.mp H
    obtain ⟨t136, A60, H⟩ := H
    replace H : (if t136 = 0 then ((aggr_group.f k l0 l1 a2).bind fun t137 => (some (t137, 0))) else (some (([] : List (S89)), t136))) = some (r1, r2) := H
    have A6 := Aside0.mk A60
    clear A60
    by_cases c7 : t136 = 0
    · rw [if_pos c7] at H
      have c7b0 : (t136 == 0) = true := beq_iff_eq.mpr c7
      have c7b1 : (t136 != 0) = false := bne_eq_false_iff_eq.mpr c7
      clear c7
      replace H := Option.bind_eq_some_iff.mp H
      obtain ⟨t137, A80, H⟩ := H
      replace H : (some (t137, 0)) = some (r1, r2) := H
      have A8 := Aside0.mk A80
      clear A80
      simp only [Option.some.injEq, Prod.mk.injEq] at H
      obtain ⟨rfl, rfl⟩ := H
      go_enter Tryz.func40, Tryz.ntmps40
      go_wp2_with (first | ((with_reducible refine gate_callee (f := 73) rfl ?_); refine goesL_ (some 13) rfl rfl Tryz.func73 (by kernel_rfl) rfl #[.slice A0 l0.length c0] rfl (by (try simp only [List.map_toArray, List.map_cons, List.map_nil]); first | done | rfl | (simp only [List.length_drop, List.length_take]; rfl)) ?_; (with_reducible refine (labels_Right.calls k _ _ l0 t134 t135 _ ?side1 ?side2 ?side3 A4.out).mono ?_); (case side1 => repeat (first | exact HR0.out | (with_reducible refine Kd.C_alloc ?_ _) | (with_reducible refine Kd.C_drewN ?_ _) | (with_reducible refine Kd.C_drew ?_))); (case side2 => exact HC0.out); (case side3 => first | exact HT.out | exact tabs_below HT.out (by repeat (first | (with_reducible first | exact HB.out | apply below_alloc | apply pw_below_drewN | apply below_drew1) | exact HB.out))); rintro e w9 ⟨rfl, hb⟩; refine ⟨_, rfl, ?_⟩; have n0_ := Aside0.mk (below_step (by repeat (first | (with_reducible first | exact HB.out | apply below_alloc | apply pw_below_drewN | apply below_drew1) | exact HB.out)) hb); clear HB; have HB := n0_; clear n0_; (try clear hb); (try clear hb2); (try clear hk); (try clear hi)) | ((with_reducible refine gate_callee (f := 85) rfl ?_); refine goesL_ (some 20) rfl rfl Tryz.func85 (by kernel_rfl) rfl #[.slice A1 l1.length c1] rfl (by (try simp only [List.map_toArray, List.map_cons, List.map_nil]); first | done | rfl | (simp only [List.length_drop, List.length_take]; rfl)) ?_; (with_reducible refine (aggr_wrong.calls k _ _ l1 t136 _ ?side1 ?side2 A6.out).mono ?_); (case side1 => repeat (first | exact (Kd.C_below HR1.out HB.out) | (with_reducible refine Kd.C_alloc ?_ _) | (with_reducible refine Kd.C_drewN ?_ _) | (with_reducible refine Kd.C_drew ?_))); (case side2 => exact HC1.out); rintro e w10 ⟨rfl, hb⟩; refine ⟨_, rfl, ?_⟩; have n0_ := Aside0.mk (below_step (by repeat (first | (with_reducible first | exact HB.out | apply below_alloc | apply pw_below_drewN | apply below_drew1) | exact HB.out)) hb); clear HB; have HB := n0_; clear n0_; (try clear hb); (try clear hb2); (try clear hk); (try clear hi)) | ((with_reducible refine gate_callee (f := 83) rfl ?_); refine goesL_ (some 27) rfl rfl Tryz.func83 (by kernel_rfl) rfl #[.slice A0 l0.length c0, .slice A1 l1.length c1, .bool a2] rfl (by (try simp only [List.map_toArray, List.map_cons, List.map_nil]); first | done | rfl | (simp only [List.length_drop, List.length_take]; rfl)) ?_; (with_reducible refine (aggr_group.calls k _ _ l0 _ _ l1 a2 t137 _ ?side1 ?side2 ?side3 ?side4 ?side5 A8.out).mono ?_); (case side1 => repeat (first | exact (Kd.C_below HR0.out HB.out) | (with_reducible refine Kd.C_alloc ?_ _) | (with_reducible refine Kd.C_drewN ?_ _) | (with_reducible refine Kd.C_drew ?_))); (case side2 => exact HC0.out); (case side3 => repeat (first | exact (Kd.C_below HR1.out HB.out) | (with_reducible refine Kd.C_alloc ?_ _) | (with_reducible refine Kd.C_drewN ?_ _) | (with_reducible refine Kd.C_drew ?_))); (case side4 => exact HC1.out); (case side5 => first | exact HT.out | exact tabs_below HT.out (by repeat (first | (with_reducible first | exact HB.out | apply below_alloc | apply pw_below_drewN | apply below_drew1) | exact HB.out))); rintro e w11 ⟨v138, rfl, ho0, hb⟩; refine ⟨_, rfl, ?_⟩; have n0_ := Aside0.mk (Kd.R_lower ho0 (below_size (by repeat (first | (with_reducible first | exact HB.out | apply below_alloc | apply pw_below_drewN | apply below_drew1) | exact HB.out)))); have n1_ := Aside0.mk (below_step (by repeat (first | (with_reducible first | exact HB.out | apply below_alloc | apply pw_below_drewN | apply below_drew1) | exact HB.out)) hb); clear HB; have HO139 := n0_; have HB := n1_; clear n0_ n1_; (try clear hb); (try clear hb2); (try clear hk); (try clear hi); (try clear ho0)))
      go_ret2
      exact ⟨_, by first | rfl | (simp [errW_none, errW_some] <;> rfl) | (simp [*, errW_none, errW_some] <;> rfl), by (with_reducible repeat (first | apply Kd.R_alloc | apply Kd.R_drewN | apply Kd.R_drew)); exact HO139.out, by repeat (first | (with_reducible first | exact HB.out | apply below_alloc | apply pw_below_drewN | apply below_drew1) | exact HB.out)⟩
    · rw [if_neg c7] at H
      have c7b0 : (t136 == 0) = false := beq_eq_false_iff_ne.mpr c7
      have c7b1 : (t136 != 0) = true := bne_iff_ne.mpr c7
      simp only [Option.some.injEq, Prod.mk.injEq] at H
      obtain ⟨rfl, rfl⟩ := H
      go_enter Tryz.func40, Tryz.ntmps40
      go_wp2_with (first | ((with_reducible refine gate_callee (f := 73) rfl ?_); refine goesL_ (some 13) rfl rfl Tryz.func73 (by kernel_rfl) rfl #[.slice A0 l0.length c0] rfl (by (try simp only [List.map_toArray, List.map_cons, List.map_nil]); first | done | rfl | (simp only [List.length_drop, List.length_take]; rfl)) ?_; (with_reducible refine (labels_Right.calls k _ _ l0 t134 t135 _ ?side1 ?side2 ?side3 A4.out).mono ?_); (case side1 => repeat (first | exact HR0.out | (with_reducible refine Kd.C_alloc ?_ _) | (with_reducible refine Kd.C_drewN ?_ _) | (with_reducible refine Kd.C_drew ?_))); (case side2 => exact HC0.out); (case side3 => first | exact HT.out | exact tabs_below HT.out (by repeat (first | (with_reducible first | exact HB.out | apply below_alloc | apply pw_below_drewN | apply below_drew1) | exact HB.out))); rintro e w12 ⟨rfl, hb⟩; refine ⟨_, rfl, ?_⟩; have n0_ := Aside0.mk (below_step (by repeat (first | (with_reducible first | exact HB.out | apply below_alloc | apply pw_below_drewN | apply below_drew1) | exact HB.out)) hb); clear HB; have HB := n0_; clear n0_; (try clear hb); (try clear hb2); (try clear hk); (try clear hi)) | ((with_reducible refine gate_callee (f := 85) rfl ?_); refine goesL_ (some 20) rfl rfl Tryz.func85 (by kernel_rfl) rfl #[.slice A1 l1.length c1] rfl (by (try simp only [List.map_toArray, List.map_cons, List.map_nil]); first | done | rfl | (simp only [List.length_drop, List.length_take]; rfl)) ?_; (with_reducible refine (aggr_wrong.calls k _ _ l1 t136 _ ?side1 ?side2 A6.out).mono ?_); (case side1 => repeat (first | exact (Kd.C_below HR1.out HB.out) | (with_reducible refine Kd.C_alloc ?_ _) | (with_reducible refine Kd.C_drewN ?_ _) | (with_reducible refine Kd.C_drew ?_))); (case side2 => exact HC1.out); rintro e w13 ⟨rfl, hb⟩; refine ⟨_, rfl, ?_⟩; have n0_ := Aside0.mk (below_step (by repeat (first | (with_reducible first | exact HB.out | apply below_alloc | apply pw_below_drewN | apply below_drew1) | exact HB.out)) hb); clear HB; have HB := n0_; clear n0_; (try clear hb); (try clear hb2); (try clear hk); (try clear hi)))
      go_ret2
      exact ⟨_, by first | rfl | (simp [errW_none, errW_some] <;> rfl) | (simp [*, errW_none, errW_some] <;> rfl), by first | exact Kd.R_nil _ _ _ _ _ | exact Kd.N_nil _ _ _ _ _ | exact Kd.V_nil _ _ _ _ _ | exact Kd.Q_nil _ _ _ _ _ | exact Kd.S_nil _ _ _ _ _, by repeat (first | (with_reducible first | exact HB.out | apply below_alloc | apply pw_below_drewN | apply below_drew1) | exact HB.out)⟩
  · rw [if_neg c5] at H
    have c5b0 : (t134 == 0) = false := beq_eq_false_iff_ne.mpr c5
    have c5b1 : (t134 != 0) = true := bne_iff_ne.mpr c5
    simp only [Option.some.injEq, Prod.mk.injEq] at H
    obtain ⟨rfl, rfl⟩ := H
    go_enter Tryz.func40, Tryz.ntmps40
    go_wp2_with (first | ((with_reducible refine gate_callee (f := 73) rfl ?_); refine goesL_ (some 13) rfl rfl Tryz.func73 (by kernel_rfl) rfl #[.slice A0 l0.length c0] rfl (by (try simp only [List.map_toArray, List.map_cons, List.map_nil]); first | done | rfl | (simp only [List.length_drop, List.length_take]; rfl)) ?_; (with_reducible refine (labels_Right.calls k _ _ l0 t134 t135 _ ?side1 ?side2 ?side3 A4.out).mono ?_); (case side1 => repeat (first | exact HR0.out | (with_reducible refine Kd.C_alloc ?_ _) | (with_reducible refine Kd.C_drewN ?_ _) | (with_reducible refine Kd.C_drew ?_))); (case side2 => exact HC0.out); (case side3 => first | exact HT.out | exact tabs_below HT.out (by repeat (first | (with_reducible first | exact HB.out | apply below_alloc | apply pw_below_drewN | apply below_drew1) | exact HB.out))); rintro e w14 ⟨rfl, hb⟩; refine ⟨_, rfl, ?_⟩; have n0_ := Aside0.mk (below_step (by repeat (first | (with_reducible first | exact HB.out | apply below_alloc | apply pw_below_drewN | apply below_drew1) | exact HB.out)) hb); clear HB; have HB := n0_; clear n0_; (try clear hb); (try clear hb2); (try clear hk); (try clear hi)))
    go_ret2
    exact ⟨_, by first | rfl | (simp [errW_none, errW_some] <;> rfl) | (simp [*, errW_none, errW_some] <;> rfl), by first | exact Kd.R_nil _ _ _ _ _ | exact Kd.N_nil _ _ _ _ _ | exact Kd.V_nil _ _ _ _ _ | exact Kd.Q_nil _ _ _ _ _ | exact Kd.S_nil _ _ _ _ _, by repeat (first | (with_reducible first | exact HB.out | apply below_alloc | apply pw_below_drewN | apply below_drew1) | exact HB.out)⟩

end Go.Proofs.YtoncpeadbhgmaaaGreatDoor.G

set_option linter.unusedVariables false
set_option linter.unusedSimpArgs false
namespace Go.Proofs.YtoncpeadbhgmaaaGreatDoor.G
open Go.RowKit Go.Sort Go.Shelf Go.Proofs.YtoncpeadbhgmaaaGreatDoorW.PrintWords

theorem kept_world1 {α : Type} [Inhabited α] (enc : α → Value) (W : World) (blk n : Nat) (d' : Array α) (os : Array Obj) (c : Array Value) (e : Nat) (hb : W.heap[blk]? = some (.cells c e (0, 0))) (v : Value) (hv : v.ownBlock = some blk) :
    SortKept W (sortWorld enc W blk 0 n d' os) v := by
  have hlt : blk < W.heap.size := (Array.getElem?_eq_some_iff.1 hb).1
  refine ⟨rfl, rfl, rfl, ?_, fun j hj hne => ?_⟩
  · simp [sortWorld, size_grow]
  · simp only [sortWorld]
    rw [heap_grow_old _ _ (by simpa using hj)]
    simp only [putRow, mapBlock]
    rw [Array.getElem?_modify]
    rw [hv] at hne
    rw [if_neg (fun h => hne (by rw [h]))]
    rfl
theorem kept_row1 {α : Type} [Inhabited α] (enc : α → Value) (W : World) (blk n : Nat) (d' : Array α) (os : Array Obj) (c : Array Value) (e : Nat) (hb : W.heap[blk]? = some (.cells c e (0, 0))) (hc : d'.size ≤ c.size) :
    ∃ c', (sortWorld enc W blk 0 n d' os).heap[blk]? = some (.cells c' e (0, 0)) ∧ c'.size = c.size ∧ c'.toList.take d'.size = d'.toList.map enc := by
  have hlt : blk < W.heap.size := (Array.getElem?_eq_some_iff.1 hb).1
  refine ⟨putCells enc 0 d' c, ?_, by simp [putCells], ?_⟩
  · simp only [sortWorld]
    rw [heap_grow_old _ _ (by simpa using hlt)]
    simp only [putRow, mapBlock]
    rw [Array.getElem?_modify, if_pos rfl]
    show (W.heap[blk]?).map _ = _
    rw [hb]; rfl
  · apply List.ext_getElem
    · simp [putCells]; omega
    · intro i h1 h2
      have hi : i < d'.size := by simpa using h2
      simp only [List.getElem_take, Array.getElem_toList, putCells, Array.getElem_mapIdx, Nat.zero_le, true_and, Nat.zero_add, Nat.sub_zero, List.getElem_map]
      rw [if_pos hi, getElem!_pos d' _ hi]

set_option maxHeartbeats 1000000 in
theorem sort_fin (n : Nat) (hn : n < 4611686018427387904) (c : Fin n → Fin n → Int) (hO : SWO (ltOf c)) (g : Nat) (cb : Array Value) (eg : ∀ args w, (callFunc g args).run Tryz.prog w = .ok (.enter g args) w)
    (base : Nat) (ok : Nat → Prop) (v : Value) (W : World) (ho : (Kd.int .i64).R 3 W base ok v ((List.finRange n).map fun i => (i.1 : Int)))
    (hcmp : ∀ (W' : World) (x y : Fin n), SortKept W W' v → Calls Tryz.prog g (#[.int .i64 x.1, .int .i64 y.1] ++ cb) W' fun e w' => e = .returned (.int .i64 (c x y)) ∧ Grew W' w') :
    Calls Tryz.prog 87 #[v, .func (.func g) #[] cb] W fun e' w' => e' = .returned (.tuple #[]) ∧ ∃ ys : List (Fin n), ys.Perm (List.finRange n) ∧ (ys.Pairwise fun a b => ¬ c b a < 0) ∧ (Kd.int .i64).R 3 w' base ok v (ys.map fun i => (i.1 : Int)) ∧ SortKept W w' v := by
  obtain ⟨h0, inner, ho1, hr⟩ := ho
  have hlen : ((List.finRange n).map fun i => (i.1 : Int)).length = n := by simp
  have hnone : ∀ p cap, v = .slice p 0 cap → n = 0 → Calls Tryz.prog 87 #[v, .func (.func g) #[] cb] W fun e' w' => e' = .returned (.tuple #[]) ∧ ∃ ys : List (Fin n), ys.Perm (List.finRange n) ∧ (ys.Pairwise fun a b => ¬ c b a < 0) ∧ (Kd.int .i64).R 3 w' base ok v (ys.map fun i => (i.1 : Int)) ∧ SortKept W w' v := fun p cap hv h0' => by
    subst hv
    refine (AnyF.slices_SortFunc_none (P := Tryz.prog) (ρ := Tryz.sortInt_ren) { Tryz.sortInt with } p cap _ W).mono ?_
    rintro e' w' ⟨rfl, rfl⟩
    subst h0'
    exact ⟨rfl, [], by simp, List.Pairwise.nil, ⟨h0, inner, ho1, hr⟩, rfl, rfl, rfl, Nat.le_refl _, fun _ _ _ => rfl⟩
  rcases ho1.2 with ⟨hv, hn0⟩ | ⟨blk, cap, cur, hv, hbase, hb, hnc, hcm, hcs, ht⟩
  · exact hnone none 0 hv (by simpa using hn0)
  · rw [hlen] at hv hnc ht
    by_cases hz : n = 0
    · exact hnone _ _ (by rw [hv, hz]) hz
    · subst hv
      haveI : Inhabited (Fin n) := ⟨⟨0, by omega⟩⟩
      let enc : Fin n → Value := fun i => .int .i64 i.1
      let D : Array (Fin n) := (List.finRange n).toArray
      have hDs : D.size = n := by simp [D]
      have hDg : ∀ (i : Nat) (hi : i < D.size), (D[i]'hi).1 = i := fun i hi => by simp [D]
      have hblk : blk < W.heap.size := (Array.getElem?_eq_some_iff.1 hb).1
      have hin : ∀ (i : Nat), i < n → inner[i]? = some (.int .i64 (i : Int)) := fun i hi => by
        have h := hr.2 i (i : Int) (by rw [List.getElem?_map]; simp [hi])
        have h' : (inner.drop (i * 1)).take 1 = [.int .i64 (i : Int)] := h
        have h2 : ((inner.drop (i * 1)).take 1)[0]? = some (.int .i64 (i : Int)) := by rw [h']; rfl
        simpa using h2
      have hH : Holds enc W blk 0 D := by
        intro t ht'
        have htn : t < n := by omega
        have hcur : cur[t]? = some (.int .i64 (t : Int)) := by
          have h3 : (cur.toList.take (n * 1))[t]? = inner[t]? := by
            have : cur.toList.take (n * 1) = inner := ht
            rw [this]
          rw [hin t htn, List.getElem?_take] at h3
          split at h3
          · simpa using h3
          · cases h3
        refine ⟨?_, ?_⟩
        · simp only [World.cell?, hb, Nat.zero_add]
          rw [getElem!_pos D _ ht']
          simp [hcur, enc, hDg]
        · simp [World.frozen?, hb]
      have hcmp' : CmpLays1 Tryz.prog g cb enc c blk 0 D.size W := by
        intro m os dk hdk x y
        have hkw := kept_world1 enc W blk m dk os cur 3 hb (.slice (some ⟨blk, 0, none⟩) n cap) rfl
        exact (hcmp _ x y hkw).mono fun e' w' ⟨he, q, os', hw⟩ => ⟨he, q, os', hw⟩
      have hcon := Any.slices_SortFunc Tryz.sortInt enc (fun _ => rfl) c hO g cb blk 0 cap D W eg hcmp' hH hblk (by rw [hDs]; exact hn)
      rw [hDs] at hcon
      refine hcon.mono ?_
      rintro e' w' ⟨rfl, d', m, os, hperm, hsort, rfl⟩
      have hd's : d'.size = n := hperm.1.trans hDs
      have hkw := kept_world1 enc W blk m d' os cur 3 hb (.slice (some ⟨blk, 0, none⟩) n cap) rfl
      refine ⟨rfl, d'.toList, ?_, ?_, ?_, hkw⟩
      · have h2 := hperm.2.2
        have h3 : d'.extract 0 n = d' := by
          apply Array.ext
          · simp [hd's]
          · intro i i1 i2; simp
        have h4 : D.extract 0 n = D := by
          apply Array.ext
          · simp [hDs]
          · intro i i1 i2; simp
        rw [h3, h4] at h2
        simpa [D] using h2
      · rw [List.pairwise_iff_getElem]
        intro i j hi hj hij
        have hi' : i < d'.size := by simpa using hi
        have hj' : j < d'.size := by simpa using hj
        have h := hsort i j (Nat.zero_le _) hij (by omega)
        rw [getElem!_pos d' _ hj', getElem!_pos d' _ hi'] at h
        simpa [ltOf] using h
      · obtain ⟨c', hc1, hc2, hc3⟩ := kept_row1 enc W blk m d' os cur 3 hb (by rw [hd's, hcs]; exact Nat.le_trans hnc (by simp [Kd.int, Kd.scalar]))
        have hl2 : (d'.toList.map fun i => (i.1 : Int)).length = n := by simp [hd's]
        refine ⟨fun k hk' => h0 k (by simpa [hlen] using hk'), d'.toList.map enc, ⟨by rw [hl2]; simp [hd's, Kd.int, Kd.scalar], .inr ⟨blk, cap, c', by rw [hl2], hbase, hc1, by rw [hl2]; exact hnc, hcm, by rw [hc2, hcs], by rw [hl2]; have h9 := hc3; rw [show c'.toList.take d'.size = c'.toList.take (n * (Kd.int IntKind.i64).sz) from by rw [hd's]; simp [Kd.int, Kd.scalar]] at h9; exact h9⟩⟩, by simp [hd's, Kd.int, Kd.scalar], fun j p hj => ?_⟩
        obtain ⟨hjl, hp⟩ := List.getElem?_eq_some_iff.1 hj
        subst hp
        show (List.take 1 (List.drop (j * 1) _)) = [_]
        have hj' : j < d'.size := by simpa using hjl
        apply List.ext_getElem
        · simp; omega
        · intro i i1 i2
          have : i = 0 := by simp at i2; omega
          subst this
          simp [enc]
end Go.Proofs.YtoncpeadbhgmaaaGreatDoor.G

set_option linter.unusedVariables false
set_option linter.unusedSimpArgs false
namespace Go.Proofs.YtoncpeadbhgmaaaGreatDoor.G
open Go.RowKit Go.Sort Go.Shelf Go.Proofs.YtoncpeadbhgmaaaGreatDoorW.PrintWords Go.Proofs.YtoncpeadbhgmaaaGreatDoorW.PrintLast Go.Proofs.YtoncpeadbhgmaaaGreatDoorW.PrintMore

/-- An element of a row of label sets: its cell, and what it leads to. -/
theorem key_at {w : World} {B : Nat} {ok : Nat → Prop} {vk : Value} {keys : List (List S89)} (h : (Kd.slice 89 k89).R 39 w B ok vk keys) : ∃ A c, vk = .slice A keys.length c ∧ ∀ i (hi : i < keys.length), ∃ gk Ai ci, A = some ⟨gk, 0, none⟩ ∧ w.cell? ⟨gk, i, none⟩ = some (.slice Ai keys[i].length ci) ∧ keys[i].length ≤ ci ∧ Kd.C k89 w Ai keys[i].length keys[i] := by
  obtain ⟨A, c, rfl⟩ := Kd.R_slice h
  refine ⟨A, c, rfl, fun i hi => ?_⟩
  obtain ⟨_, _, hC⟩ := Kd.R_reads' h
  obtain ⟨ad, cs, rfl, hl, hK, hc⟩ := Kd.C_get hC ([] : List S89) (i : Int) (by omega) (by omega)
  obtain ⟨gk, rfl⟩ := Kd.R_head h
  obtain ⟨Ai, ci, rfl, hle, hr⟩ := hK
  have e : keys.getD (i : Int).toNat [] = keys[i] := by simp [List.getD_eq_getElem?_getD, hi]
  have hc0 := hc 0 _ rfl
  rw [e] at hc0 hle hr
  refine ⟨gk, Ai, ci, rfl, ?_, hle, hr⟩
  rw [← hc0]
  congr 1
  simp [Addr.add, Kd.slice]

set_option maxHeartbeats 4000000 in
set_option maxRecDepth 100000 in
theorem groupsLess_calls (w : World) (B bx : Nat) (ok : Nat → Prop) (vk : Value) (keys : List (List S89)) (hb : w.heap[bx]? = some (.cells #[vk] 108 (0, 0))) (hR : (Kd.slice 89 k89).R 39 w B ok vk keys) (i j : Nat) (hi : i < keys.length) (hj : j < keys.length) :
    Calls Tryz.prog 88 #[.int .i64 i, .int .i64 j, .pointer (some ⟨bx, 0, none⟩)] w fun e w' => e = .returned (.int .i64 (cmpLs keys[i] keys[j])) ∧ Grew w w' := by
  obtain ⟨A, ck, rfl, hat⟩ := key_at hR
  obtain ⟨gk, Ai, ci, rfl, x0, hli, hci⟩ := hat i hi
  obtain ⟨gk', Aj, cj, e', y0, hlj, hcj⟩ := hat j hj
  obtain rfl : gk = gk' := by injection e' with e'; injection e'
  have b0 : w.cell? ⟨bx, 0, none⟩ = some (.slice (some ⟨gk, 0, none⟩) keys.length ck) := (blk_cell hb 0).trans rfl
  have cc := compare_grew Ai ci keys[i] Aj cj keys[j] w.drew (Kd.C_drew hci) (Kd.C_drew hcj)
  generalize cmpLs keys[i] keys[j] = r at cc ⊢
  clear hat hci hcj e' hR hb hli hlj
  have p0 : (0 ≤ (i : Int)) = True := eq_true (by omega)
  have p1 : ((i : Int) < (keys.length : Int)) = True := eq_true (by omega)
  have q0 : (0 ≤ (j : Int)) = True := eq_true (by omega)
  have q1 : ((j : Int) < (keys.length : Int)) = True := eq_true (by omega)
  go_enter Tryz.func88, Tryz.ntmps88
  go_wp2
  refine start_ (n := 10) (S := fun w' => w'.cell? ⟨bx, 0, none⟩ = some (.slice (some ⟨gk, 0, none⟩) keys.length ck) ∧ w'.cell? ⟨gk, i, none⟩ = some (.slice Ai keys[i].length ci) ∧ w'.cell? ⟨gk, j, none⟩ = some (.slice Aj keys[j].length cj)) (ds := []) #[false, false, false, false, false, false, false, false, false, false] (by kernel_rfl) rfl rfl ⟨b0, x0, y0⟩ (fun hHeld => ?_)
  refine pure_ (i := 1) (N := some 7) (v := ?_) (a' := ?_) #[false, true, false, false, false, false, false, false, false, false] rfl rfl (by kernel_rfl) (fun _ _ _ h => h) (Or.inl ⟨by rfl, ?_⟩) ?_ ?_
  rotate_left
  · intro w'
    go_simp
    with_reducible rfl
  rotate_left
  · simp only [Act.put, List.setIfInBounds_toArray, List.set_cons_zero, List.set_cons_succ, i64_w, i32_w]
    rfl
  refine pure_ (i := 5) (N := some 11) (v := ?_) (a' := ?_) #[false, true, false, false, false, true, false, false, false, false] rfl rfl (by kernel_rfl) (fun _ _ _ h => h) (Or.inl ⟨by rfl, ?_⟩) ?_ ?_
  rotate_left
  · intro w'
    go_simp
    with_reducible rfl
  rotate_left
  · simp only [Act.put, List.setIfInBounds_toArray, List.set_cons_zero, List.set_cons_succ, i64_w, i32_w]
    rfl
  refine take_ (i := 0) (N := some 6) (v := ?_) (a' := ?_) #[true, true, false, false, false, true, false, false, false, false] rfl rfl (by kernel_rfl) (fun _ _ _ h => h) (Or.inl ⟨by rfl, ?_⟩) hHeld ?_ ?_
  rotate_left
  · rintro w' ⟨s0, s1, s2⟩
    go_simp
    with_reducible rfl
  rotate_left
  · simp only [Act.put, List.setIfInBounds_toArray, List.set_cons_zero, List.set_cons_succ, i64_w, i32_w]
    rfl
  refine take_ (i := 4) (N := some 10) (v := ?_) (a' := ?_) #[true, true, false, false, true, true, false, false, false, false] rfl rfl (by kernel_rfl) (fun _ _ _ h => h) (Or.inl ⟨by rfl, ?_⟩) hHeld ?_ ?_
  rotate_left
  · rintro w' ⟨s0, s1, s2⟩
    go_simp
    with_reducible rfl
  rotate_left
  · simp only [Act.put, List.setIfInBounds_toArray, List.set_cons_zero, List.set_cons_succ, i64_w, i32_w]
    rfl
  refine pure_ (i := 2) (N := some 8) (v := ?_) (a' := ?_) #[true, true, true, false, true, true, false, false, false, false] rfl rfl (by kernel_rfl) (fun _ _ _ h => h) (Or.inl ⟨by rfl, ?_⟩) ?_ ?_
  rotate_left
  · intro w'
    go_simp
    with_reducible rfl
  rotate_left
  · simp only [Act.put, List.setIfInBounds_toArray, List.set_cons_zero, List.set_cons_succ, i64_w, i32_w]
    rfl
  refine pure_ (i := 6) (N := some 12) (v := ?_) (a' := ?_) #[true, true, true, false, true, true, true, false, false, false] rfl rfl (by kernel_rfl) (fun _ _ _ h => h) (Or.inl ⟨by rfl, ?_⟩) ?_ ?_
  rotate_left
  · intro w'
    go_simp
    with_reducible rfl
  rotate_left
  · simp only [Act.put, List.setIfInBounds_toArray, List.set_cons_zero, List.set_cons_succ, i64_w, i32_w]
    rfl
  refine take_ (i := 3) (N := some 9) (v := ?_) (a' := ?_) #[true, true, true, true, true, true, true, false, false, false] rfl rfl (by kernel_rfl) (fun _ _ _ h => h) (Or.inl ⟨by rfl, ?_⟩) hHeld ?_ ?_
  rotate_left
  · rintro w' ⟨s0, s1, s2⟩
    go_simp
    with_reducible rfl
  rotate_left
  · simp only [Act.put, List.setIfInBounds_toArray, List.set_cons_zero, List.set_cons_succ, i64_w, i32_w]
    rfl
  refine take_ (i := 7) (N := some 13) (v := ?_) (a' := ?_) #[true, true, true, true, true, true, true, true, false, false] rfl rfl (by kernel_rfl) (fun _ _ _ h => h) (Or.inl ⟨by rfl, ?_⟩) hHeld ?_ ?_
  rotate_left
  · rintro w' ⟨s0, s1, s2⟩
    go_simp
    with_reducible rfl
  rotate_left
  · simp only [Act.put, List.setIfInBounds_toArray, List.set_cons_zero, List.set_cons_succ, i64_w, i32_w]
    rfl
  refine one_ (i := 8) (N := some 14) #[true, true, true, true, true, true, true, true, true, false] rfl rfl (by kernel_rfl) (by decide) (fun K hK => ?_)
  refine goes_ Tryz.func61 (by kernel_rfl) rfl #[.slice Ai keys[i].length ci, .slice Aj keys[j].length cj] (by rfl) rfl rfl (by (try simp only [List.map_toArray, List.map_cons, List.map_nil]); first | done | rfl) ?_
  refine cc.mono ?_
  rintro e w1 ⟨rfl, hg⟩
  refine ⟨_, rfl, ?_⟩
  have hS : ∀ {a : Addr} {u : Value}, w.cell? a = some u → w1.cell? a = some u := fun {a u} h => (hg.below.cell (World.block_lt_of_cell? w.drew _ h)).trans h
  refine hK.out _ _ ⟨hS b0, hS x0, hS y0⟩ (fun hHeld => ?_)
  clear hK K
  refine norm_ (a' := ?_) ?_ ?_
  rotate_left
  · show Act.put _ (some 14) _ = _
    simp only [Act.put, List.setIfInBounds_toArray, List.set_cons_zero, List.set_cons_succ, i64_w, i32_w]
    rfl
  refine pure_ (i := 9) (N := some 5) (v := ?_) (a' := ?_) #[true, true, true, true, true, true, true, true, true, true] rfl rfl (by kernel_rfl) (fun _ _ _ h => h) (Or.inl ⟨by rfl, ?_⟩) ?_ ?_
  rotate_left
  · intro w'
    go_simp
    with_reducible rfl
  rotate_left
  · simp only [Act.put, List.setIfInBounds_toArray, List.set_cons_zero, List.set_cons_succ, i64_w, i32_w]
    rfl
  refine done_ (by kernel_rfl) ?_
  go_wp2
  go_ret
  exact ⟨rfl, (Grew.refl w).drew.trans hg⟩
end Go.Proofs.YtoncpeadbhgmaaaGreatDoor.G

set_option linter.unusedVariables false
set_option linter.unusedSimpArgs false
namespace Go.Proofs.YtoncpeadbhgmaaaGreatDoor.G
open Go.RowKit Go.Sort Go.Shelf Go.Proofs.YtoncpeadbhgmaaaGreatDoorW.PrintWords Go.Proofs.YtoncpeadbhgmaaaGreatDoorW.PrintLast Go.Proofs.YtoncpeadbhgmaaaGreatDoorW.PrintMore

structure GSt where
  keys : List (List S89)
  ks : List (List UInt8)
  outs : List (List S41)
def GSt.met (st : GSt) (g : List S89) (key : List UInt8) : GSt := if key ∈ st.ks then st else ⟨st.keys ++ [g], st.ks ++ [key], st.outs ++ [[]]⟩
def GSt.put (st : GSt) (key : List UInt8) (p : S41) : GSt := ⟨st.keys, st.ks, st.outs.set (st.ks.idxOf key) (rd_L5 st.outs (st.ks.idxOf key : Int) ++ [p])⟩
def gput (k : Nat) (names : List ByteArray) (wo : Bool) (st : GSt) (p : S41) : Option GSt :=
  (aggr_group.f k p.f0 names wo).bind fun g => (labels_Put.f k ([] : List Int) g).bind fun kb =>
    if st.outs.length < 1048576 ∧ (rd_L5 (st.met g (strOfNums kb.1).data.toList).outs ((st.met g (strOfNums kb.1).data.toList).ks.idxOf (strOfNums kb.1).data.toList : Int)).length < 1048576 then some ((st.met g (strOfNums kb.1).data.toList).put (strOfNums kb.1).data.toList p) else none
def gfold (k : Nat) (names : List ByteArray) (wo : Bool) : List S41 → GSt → Option GSt
  | [], st => some st
  | p :: l, st => (gput k names wo st p).bind (gfold k names wo l)

structure GBase (B : Nat) (W1 w : World) (mp bx : Nat) (st : GSt) : Prop where
  below : Below B W1 w
  map : IMap w mp st.ks.length st.ks
  mpB : B ≤ mp
  bxB : B ≤ bx
  box : ∃ vk, w.heap[bx]? = some (.cells #[vk] 108 (0, 0)) ∧ (Kd.slice 89 k89).R 39 w B (fun _ => True) vk st.keys
  lk : st.keys.length = st.outs.length
  ls : st.ks.length = st.outs.length
structure GInv (B lim : Nat) (W1 w : World) (mp bx : Nat) (v : Value) (st : GSt) : Prop extends GBase B W1 w mp bx st where
  rows : Rows B lim w v st.outs

theorem gbase_kept {B : Nat} {W1 w w1 : World} {mp bx : Nat} {st : GSt} (h : GBase B W1 w mp bx st) {g : Option Nat} (hg : w.grownBy w1 g) (hs : W1.heap.size = B) (hB : ∀ k, g = some k → B ≤ k) (h1 : some mp ≠ g) (h2 : some bx ≠ g)
    (hne : ∀ k q c, g = some k → q = 39 ∨ q = 89 → w.heap[k]? ≠ some (.cells c q (0, 0))) : GBase B W1 w1 mp bx st where
  below := h.below.trans (grown_below hg hB (hs ▸ h.below.size))
  map := imap_kept h.map hg h1
  mpB := h.mpB
  bxB := h.bxB
  box := by
    obtain ⟨vk, hb, hr⟩ := h.box
    exact ⟨vk, (hg.block bx (Array.getElem?_eq_some_iff.1 hb).1 h2).trans hb, R_kept hr hg (fun k q c hk hq => hne k q c hk (by
      simpa [Kd.slice, k89, Kd.iso, Kd.pair, Kd.string, Kd.scalar] using hq))⟩
  lk := h.lk
  ls := h.ls
/-- .. over a write into a block of cells of another type. -/
theorem gbase_typed {B : Nat} {W1 w w1 : World} {mp bx : Nat} {st : GSt} (h : GBase B W1 w mp bx st) {g : Option Nat} (hg : w.grownBy w1 g) (hs : W1.heap.size = B) {q : Nat} (hq : q ≠ 39 ∧ q ≠ 89 ∧ q ≠ 108) (hB : ∀ k, g = some k → B ≤ k) (ht : ∀ k, g = some k → ∃ c, w.heap[k]? = some (.cells c q (0, 0))) : GBase B W1 w1 mp bx st := by
  refine gbase_kept h hg hs hB (fun e => ?_) (fun e => ?_) (fun k q' c e hq' => ?_)
  · obtain ⟨es, cl, hm⟩ := imap_block h.map
    obtain ⟨c, hc⟩ := ht _ e.symm
    rw [hm] at hc; cases hc
  · obtain ⟨vk, hb, _⟩ := h.box
    obtain ⟨c, hc⟩ := ht _ e.symm
    rw [hb] at hc
    simp at hc
    exact hq.2.2 hc.2.symm
  · obtain ⟨c', hc'⟩ := ht _ e
    rw [hc']
    simp
    intro _ e2
    subst e2
    rcases hq' with h | h
    · exact hq.1 h
    · exact hq.2.1 h
theorem ginv_kept {B lim : Nat} {W1 w w1 : World} {mp bx : Nat} {v : Value} {st : GSt} (h : GInv B lim W1 w mp bx v st) {g : Option Nat} (hg : w.grownBy w1 g) (hs : W1.heap.size = B) (hB : ∀ k, g = some k → B ≤ k) (h1 : some mp ≠ g) (h2 : some bx ≠ g)
    (hne : ∀ k q c, g = some k → q = 22 ∨ q = 41 ∨ q = 39 ∨ q = 89 → w.heap[k]? ≠ some (.cells c q (0, 0))) : GInv B lim W1 w1 mp bx v st where
  toGBase := gbase_kept h.toGBase hg hs hB h1 h2 (fun k q c hk hq => hne k q c hk (by rcases hq with h | h <;> simp [h]))
  rows := rows_kept h.rows hg hB (fun k q c hk hq => hne k q c hk (by rcases hq with h | h <;> simp [h]))
theorem ginv_below {B lim : Nat} {W1 w w1 : World} {mp bx : Nat} {v : Value} {st : GSt} (h : GInv B lim W1 w mp bx v st) (hs : W1.heap.size = B) (hb : Below w.heap.size w w1) : GInv B lim W1 w1 mp bx v st :=
  ginv_kept h (grown_none hb) hs (fun k e => by cases e) (by simp) (by simp) (fun k q c e => by cases e)
theorem ginv_lim {B lim : Nat} {W1 w : World} {mp bx : Nat} {v : Value} {st : GSt} (h : GInv B lim W1 w mp bx v st) : GInv B w.heap.size W1 w mp bx v st := { toGBase := h.toGBase, rows := rows_lim h.rows }
theorem inner_open {B : Nat} {w : World} {u : SL} {o : List S41} (h : Kd.N k41 41 w B (okI B (sv u)) (sv u) o) :
    ∃ rows : List (List Value), rows.length = o.length ∧ (Kd.raw 2).R 41 w B (fun _ => True) (sv u) rows ∧ ∀ (j : Nat) (x : S41) (c : List Value), o[j]? = some x → rows[j]? = some c → Kd.FK k41 w (fun k => k < B) x c := by
  obtain ⟨_, rows, hl, hR, hf⟩ := h
  exact ⟨rows, hl, Kd.raw_any hR, fun j x c hx hc => Kd.FK_mono (hf j x c hx hc) (fun k hk => hk.1.elim id (fun he => absurd he hk.2))⟩
theorem inner_more {B : Nat} {w w1 : World} {u : SL} {o : List S41} {rows : List (List Value)} {v1 : Value} {p : S41} {cs : List Value} (hl : rows.length = o.length) (hR0 : (Kd.raw 2).R 41 w B (fun _ => True) (sv u) rows)
    (hf : ∀ (j : Nat) (x : S41) (c : List Value), o[j]? = some x → rows[j]? = some c → Kd.FK k41 w (fun k => k < B) x c) (hp : Kd.FK k41 w (fun k => k < B) p cs)
    (hg : w.grownBy w1 (sv u).ownBlock) (hR : (Kd.raw 2).R 41 w1 B (fun _ => True) v1 (rows ++ [cs])) : ∃ u' : SL, v1 = sv u' ∧ Kd.N k41 41 w1 B (okI B (sv u')) (sv u') (o ++ [p]) := by
  obtain ⟨A, cc, rfl⟩ := Kd.R_slice hR
  have hB := Kd.R_base hR0
  have hB1 := Kd.R_base hR
  refine ⟨(A, (rows ++ [cs]).length, cc), rfl, fun k hk => .inr hk.symm, rows ++ [cs], by simp [hl], Kd.raw_tight hR, fun j x c' hx hc => ?_⟩
  have hst : ∀ {x : S41} {c : List Value}, Kd.FK k41 w (fun k => k < B) x c → Kd.FK k41 w1 (fun k => okI B (sv (A, (rows ++ [cs]).length, cc)) k ∧ some k ≠ (sv (A, (rows ++ [cs]).length, cc)).ownBlock) x c := fun h =>
    Kd.FK_mono (Kd.FK_grown h hg (fun k hk he => by have := hB k he.symm; omega)) (fun k hk => ⟨.inl hk, fun he => by have := hB1 k he.symm; omega⟩)
  by_cases hj : j < o.length
  · rw [List.getElem?_append_left hj] at hx
    rw [List.getElem?_append_left (by omega)] at hc
    exact hst (hf j x c' hx hc)
  · rw [List.getElem?_append_right (by omega)] at hx hc
    have : j - o.length = 0 := by
      have := (List.getElem?_eq_some_iff.1 hx).1; simp at this; omega
    rw [this] at hx; rw [hl, this] at hc
    simp at hx hc
    subst hx; subst hc
    exact hst hp

theorem grown_set (w : World) (g i : Nat) (u : Value) : w.grownBy (w.setCell ⟨g, i, none⟩ u) (some g) :=
  ⟨rfl, rfl, rfl, by simp [World.setCell], fun k _ hne => Below.heap_setCell _ _ _ _ (fun e => hne (by rw [e]))⟩
theorem imap_t {w w1 : World} {mp n : Nat} {ks : List (List UInt8)} (h : IMap w mp n ks) {g : Option Nat} (hg : w.grownBy w1 g) (q : Nat) (ht : ∀ k, g = some k → ∃ c, w.heap[k]? = some (.cells c q (0, 0))) : IMap w1 mp n ks :=
  imap_kept h hg (fun e => by
    obtain ⟨es, cl, hm⟩ := imap_block h
    obtain ⟨c, hc⟩ := ht _ e.symm
    rw [hm] at hc; cases hc)
theorem box_t {w w1 : World} {bx t : Nat} {cs : Array Value} (h : w.heap[bx]? = some (.cells cs t (0, 0))) {g : Option Nat} (hg : w.grownBy w1 g) (q : Nat) (hq : q ≠ t) (ht : ∀ k, g = some k → ∃ c, w.heap[k]? = some (.cells c q (0, 0))) : w1.heap[bx]? = some (.cells cs t (0, 0)) :=
  (hg.block bx (Array.getElem?_eq_some_iff.1 h).1 (fun e => by
    obtain ⟨c, hc⟩ := ht _ e.symm
    rw [h] at hc
    simp at hc
    exact hq hc.2.symm)).trans h
theorem R_t {α : Type} {d : Kd α} {e : Nat} {w w1 : World} {base : Nat} {ok : Nat → Prop} {v : Value} {xs : List α} (h : d.R e w base ok v xs) {g : Option Nat} (hg : w.grownBy w1 g) (q : Nat) (hq : q ∉ e :: d.E) (ht : ∀ k, g = some k → ∃ c, w.heap[k]? = some (.cells c q (0, 0))) : d.R e w1 base ok v xs :=
  R_kept h hg (fun k q' c hk hq' => by
    obtain ⟨c', hc'⟩ := ht _ hk
    rw [hc']
    simp
    intro _ e2
    subst e2
    exact hq hq')
theorem rows_t {B lim : Nat} {w w1 : World} {v : Value} {outs : List (List S41)} (h : Rows B lim w v outs) {g : Option Nat} (hg : w.grownBy w1 g) (hB : ∀ k, g = some k → B ≤ k) (q : Nat) (hq : q ≠ 22 ∧ q ≠ 41) (ht : ∀ k, g = some k → ∃ c, w.heap[k]? = some (.cells c q (0, 0))) : Rows B lim w1 v outs :=
  rows_kept h hg hB (fun k q' c hk hq' => by
    obtain ⟨c', hc'⟩ := ht _ hk
    rw [hc']
    simp
    intro _ e2
    subst e2
    rcases hq' with h | h
    · exact hq.1 h
    · exact hq.2 h)

theorem gfold_step {k : Nat} {l1 : List ByteArray} {a2 : Bool} {all : List S41} {j : Nat} {st fin : GSt} (hj : j < all.length) (h : gfold k l1 a2 (all.drop j) st = some fin) :
    ∃ g kb1 kb2, aggr_group.f k (rd_T41 all j).f0 l1 a2 = some g ∧ labels_Put.f k ([] : List Int) g = some (kb1, kb2) ∧ st.outs.length < 1048576 ∧ (rd_L5 (st.met g (strOfNums kb1).data.toList).outs ((st.met g (strOfNums kb1).data.toList).ks.idxOf (strOfNums kb1).data.toList : Int)).length < 1048576 ∧
      gfold k l1 a2 (all.drop (j + 1)) ((st.met g (strOfNums kb1).data.toList).put (strOfNums kb1).data.toList (rd_T41 all j)) = some fin := by
  have e : rd_T41 all j = all[j] := by simp [rd_T41, List.getD_eq_getElem?_getD, hj]
  rw [List.drop_eq_getElem_cons hj] at h
  simp only [gfold, gput] at h
  rw [e]
  obtain ⟨st2, h1, h2⟩ := Option.bind_eq_some_iff.mp h
  obtain ⟨g, hg, h3⟩ := Option.bind_eq_some_iff.mp h1
  obtain ⟨⟨kb1, kb2⟩, hk, h4⟩ := Option.bind_eq_some_iff.mp h3
  split at h4
  · rename_i hc
    obtain rfl := Option.some.inj h4
    exact ⟨g, kb1, kb2, hg, hk, hc.1, hc.2, h2⟩
  · cases h4

def ordl (n m : Nat) : List Int := (List.range n).map fun i => if i < m then (i : Int) else 0
theorem ordl_zero (n : Nat) : List.replicate n (0 : Int) = ordl n 0 := by
  apply List.ext_getElem <;> simp [ordl]
theorem ordl_step (n m : Nat) (h : m < n) : (ordl n m).set m (m : Int) = ordl n (m + 1) := by
  apply List.ext_getElem
  · simp [ordl]
  · intro i h1 h2
    rw [List.getElem_set]
    simp only [ordl, List.getElem_map, List.getElem_range]
    by_cases h3 : m = i
    · subst h3; simp
    · rw [if_neg h3]
      by_cases h4 : i < m
      · rw [if_pos h4, if_pos (by omega)]
      · rw [if_neg h4, if_neg (by omega)]
theorem ordl_all (n : Nat) : ordl n n = (List.finRange n).map fun i => (i.1 : Int) := by
  apply List.ext_getElem
  · simp [ordl]
  · intro i h1 h2
    have : i < n := by simpa [ordl] using h1
    simp [ordl, this]
theorem kept_grown {W W' : World} {v : Value} (h : SortKept W W' v) : W.grownBy W' v.ownBlock := ⟨h.1, h.2.1, h.2.2.1, h.2.2.2.1, fun k hk hne => h.2.2.2.2 k hk hne⟩

/-- The groups, rising by their keys. -/
def GroupsDone (w w' : World) (fin : GSt) (v : Value) : Prop := ∃ (B : Nat) (ys : List (Fin fin.outs.length)), ys.Perm (List.finRange fin.outs.length) ∧
      (ys.Pairwise fun a b => ¬ cmpLs (fin.keys.getD b.1 []) (fin.keys.getD a.1 []) < 0) ∧ w.heap.size ≤ B ∧ Rows B w'.heap.size w' v (ys.map fun i => fin.outs[i]) ∧ Below w.heap.size w w'
set_option maxHeartbeats 4000000 in
set_option maxRecDepth 1000000 in
theorem groups_walk (k : Nat) (A0 : Option Addr) (c0 : Nat) (l0 : List S41) (A1 : Option Addr) (c1 : Nat) (l1 : List ByteArray) (a2 : Bool) (all : List S41) (fin : GSt) (w : World)
    (hr0 : Kd.C k41 w A0 l0.length l0) (hc0 : l0.length ≤ c0) (hr1 : Kd.C Kd.string w A1 l1.length l1) (hc1 : l1.length ≤ c1) (hT : Tabs w)
    (hv : vec_Vector.f k l0 = some (all, 0)) (hw : aggr_wrong.f k l1 = some 0) (hf : gfold k l1 a2 all ⟨[], [], []⟩ = some fin) (hfl : fin.outs.length < 1048576) :
    Calls Tryz.prog 32 #[.slice A0 l0.length c0, .slice A1 l1.length c1, .bool a2] w fun e w' => ∃ v : Value, e = .returned (.tuple #[v, .int .i64 0]) ∧ GroupsDone w w' fin v := by
  have cv := vec_Vector.calls k A0 c0 l0 all 0 w hr0 hc0 hT hv
  have HT := hid hT
  have HR1 := hid hr1
  have HC1 := hid hc1
  have HF := hid hf
  have HW := hid hw
  clear hr0 hc0 hr1 hc1 hv hw hf hT
  go_enter Tryz.func32, Tryz.ntmps32
  go_wp2_with fail
  refine cv.mono ?_
  rintro e w1 ⟨va, rfl, hoa, hb1⟩
  obtain ⟨Aa, ca, rfl, hla, hra⟩ := Kd.R_reads hoa
  have HT1 := hid (tabs_below HT.out hb1)
  have HRa := hid hra
  have HB1 := hid hb1
  have hla1 := hid hla
  clear hoa hra hb1 hla cv
  go_wp2_with fail
  refine (aggr_wrong.calls k A1 c1 l1 0 w1 (Kd.C_below HR1.out HB1.out) HC1.out HW.out).mono ?_
  rintro e w2 ⟨rfl, hb2⟩
  have HT2 := hid (tabs_below HT1.out hb2)
  have HB2 := hid hb2
  have HRa2 := hid (Kd.C_below HRa.out hb2)
  have HR2 := hid (Kd.C_below (Kd.C_below HR1.out HB1.out) hb2)
  clear hb2
  have hmm := @run_makeMap Tryz.prog
  go_wp2
  have hI0 : GInv w2.heap.size ((w2.alloc (Obj.map #[] 0)).alloc (Obj.cells #[Value.slice none 0 0] 108)).heap.size w2 ((w2.alloc (Obj.map #[] 0)).alloc (Obj.cells #[Value.slice none 0 0] 108)) w2.heap.size (w2.heap.size + 1) (.slice none 0 0) ⟨[], [], []⟩ :=
    { below := below_alloc (below_alloc (Below.refl _ _) _) _
      map := imap_kept (imap_made w2) (World.grownBy_alloc _ _ none) (by simp)
      mpB := Nat.le_refl _
      bxB := by omega
      box := ⟨.slice none 0 0, by have := heap_alloc_new (w2.alloc (Obj.map #[] 0)) (Obj.cells #[Value.slice none 0 0] 108); simpa using this, Kd.R_nil _ _ _ _ _⟩
      lk := rfl
      ls := rfl
      rows := rows_nil _ _ _ }
  have HI0 := hid hI0
  clear hI0
  generalize ((w2.alloc (Obj.map #[] 0)).alloc (Obj.cells #[Value.slice none 0 0] 108)) = w3 at HI0 ⊢
  go_loopw [13, 42] (fun v13 i wr => ∃ (j : Nat) (st : GSt), j ≤ all.length ∧ i = .int .i64 j ∧ Hid (GInv w2.heap.size wr.heap.size w2 wr w2.heap.size (w2.heap.size + 1) v13 st) ∧ Hid (gfold k l1 a2 (all.drop j) st = some fin)) (fun _ i _ => all.length - (intOf i).toNat)
  case atStart => exact ⟨0, _, Nat.zero_le _, rfl, HI0, HF⟩
  case round =>
    obtain ⟨j, st, hj, rfl, HI, HG⟩ := hrel
    clear HI0 HF
    have hmax := Kd.C_max HRa2.out
    by_cases hlt : j < all.length
    · obtain ⟨g, kb1, kb2, hg, hkb, hl1, hl2, hrest⟩ := gfold_step hlt HG.out
      have HG1 := hid hg
      have HK1 := hid hkb
      have HL1 := hid hl1
      have HL2 := hid hl2
      have HR := hid hrest
      clear HG hg hkb hl1 hl2 hrest
      obtain ⟨ad, Ap, cp, e, x0, x1, hlp, hcp⟩ := at_T41 HRa2.out j (by omega) (by omega)
      cases e
      replace x0 := (HI.out.below.cell (World.block_lt_of_cell? w2 _ x0)).trans x0
      replace x1 := (HI.out.below.cell (World.block_lt_of_cell? w2 _ x1)).trans x1
      simp only [Int.toNat_natCast] at x0 x1
      have HFp := hid (k41_mkF w2 (fun k => k < w2.heap.size) (rd_T41 all j) hlp (Kd.C_F k89_heap hcp))
      have HSx0 := hid (show w2.heap.size + 1 < wr.heap.size from by
        obtain ⟨vk, hb, _⟩ := HI.out.box
        exact (Array.getElem?_eq_some_iff.1 hb).1)
      have HLp := hid hlp
      have HCp := hid (Kd.C_below hcp HI.out.below)
      clear hlp hcp
      have hT3 := hid (tabs_below HT2.out HI.out.below)
      have hR3 := hid (Kd.C_below HR2.out HI.out.below)
      have hI4 := ginv_below HI.out rfl (below_alloc (Below.refl _ _) (Obj.cells #[Value.slice Ap (rd_T41 all j).f0.length cp, Value.float FloatKind.f64 (rd_T41 all j).f1] 41))
      have hp4 := heap_alloc_new wr (Obj.cells #[Value.slice Ap (rd_T41 all j).f0.length cp, Value.float FloatKind.f64 (rd_T41 all j).f1] 41)
      have hT4 := tabs_below hT3.out (below_alloc (Below.refl _ _) (Obj.cells #[Value.slice Ap (rd_T41 all j).f0.length cp, Value.float FloatKind.f64 (rd_T41 all j).f1] 41))
      have hR4 := Kd.C_alloc hR3.out (Obj.cells #[Value.slice Ap (rd_T41 all j).f0.length cp, Value.float FloatKind.f64 (rd_T41 all j).f1] 41)
      have hc4 := Kd.C_alloc HCp.out (Obj.cells #[Value.slice Ap (rd_T41 all j).f0.length cp, Value.float FloatKind.f64 (rd_T41 all j).f1] 41)
      have hs4 : wr.heap.size ≤ (wr.alloc (Obj.cells #[Value.slice Ap (rd_T41 all j).f0.length cp, Value.float FloatKind.f64 (rd_T41 all j).f1] 41)).heap.size := by simp
      have HI4 := hid hI4
      have HP4 := hid hp4
      have HT4 := hid hT4
      have HR4 := hid hR4
      have HC4 := hid hc4
      have HS4 := hid hs4
      clear hI4 hp4 hT4 hR4 hc4 hs4 hT3 hR3
      go_wp2_with fail
      generalize (wr.alloc (Obj.cells #[Value.slice Ap (rd_T41 all j).f0.length cp, Value.float FloatKind.f64 (rd_T41 all j).f1] 41)) = w4 at HI4 HP4 HT4 HR4 HC4 HS4 ⊢
      refine (aggr_group.calls k Ap cp _ A1 c1 l1 a2 g w4 HC4.out HLp.out HR4.out HC1.out HT4.out HG1.out).mono ?_
      rintro e w5 ⟨vg, rfl, hog, hb5⟩
      obtain ⟨Ag, cg, rfl, hlg, hrg⟩ := Kd.R_reads hog
      have HI5 := hid (ginv_below HI4.out rfl hb5)
      have HP5 := hid ((hb5.block _ (Array.getElem?_eq_some_iff.1 HP4.out).1).trans HP4.out)
      have HT5 := hid (tabs_below HT4.out hb5)
      have HOg := hid (Kd.R_lower hog (Nat.le_refl _))
      have HLg := hid hlg
      have HCg := hid hrg
      have HS5 := hid (Nat.le_trans HS4.out hb5.size)
      have hb5s := hid hb5.size
      clear hog hb5 hlg hrg HG1
      go_wp2_with fail
      refine (labels_Put.calls k none 0 [] Ag cg g kb1 kb2 w5 (Kd.C_nil _ _) (Nat.le_refl _) HCg.out HLg.out HT5.out HK1.out).mono ?_
      rintro e w6 ⟨vb, rfl, hob, hb6⟩
      obtain ⟨Ab, cb, rfl, hlb, hrb⟩ := Kd.R_reads hob
      have HI6 := hid (ginv_below HI5.out rfl hb6)
      have HP6 := hid ((hb6.block _ (Array.getElem?_eq_some_iff.1 HP5.out).1).trans HP5.out)
      have HOg6 := hid (Kd.R_below HOg.out hb6)
      have HM := hid (Kd.C_max hrb)
      have hcv := fun (W : World) (h : (Kd.int .u8).C W Ab kb1.length kb1) => Kd.C_string (P := Tryz.prog) (src := 109) (e := 5) (dst := 9) (c := cb) Tryz.underlying109 Tryz.underlying5 Tryz.underlying9 h
      have hcv6 := hcv w6 hrb
      have HCb := hid hrb
      have HS6 := hid (Nat.le_trans HS5.out hb6.size)
      clear hob hb6 hlb hrb HK1
      have hlook := imap_look HI6.out.map (strOfNums kb1) (by have := HM.out; simp [strOfNums, ByteArray.size, maxLen]; omega)
      cases hmem : decide ((strOfNums kb1).data.toList ∈ st.ks) with
      | true =>
        have hm : (strOfNums kb1).data.toList ∈ st.ks := of_decide_eq_true hmem
        rw [hmem, if_pos hm] at hlook
        obtain ⟨st1, hst1⟩ : ∃ s, s = st.met g (strOfNums kb1).data.toList := ⟨_, rfl⟩
        have hst2 : st1 = st := by rw [hst1]; simp [GSt.met, hm]
        rw [← hst1] at HL2 HR
        have HIx := hid (hst2 ▸ HI6.out)
        have hks : (st.ks.idxOf (strOfNums kb1).data.toList : Int) = (st1.ks.idxOf (strOfNums kb1).data.toList : Int) := by rw [hst2]
        have hmx : (strOfNums kb1).data.toList ∈ st1.ks := by rw [hst2]; exact hm
        rw [hks] at hlook
        obtain ⟨jj, hjj⟩ : ∃ jj, jj = st1.ks.idxOf (strOfNums kb1).data.toList := ⟨_, rfl⟩
        rw [← hjj] at hlook
        have hjl : jj < st1.outs.length := by rw [← HIx.out.ls, hjj]; exact List.idxOf_lt_length_of_mem hmx
        have HJ := hid hjj
        clear hm hst2 hks hmx hmem HI6 hst1 hjj
        have HPx := HP6
        have HSx := HS6
        clear HP6 HS6
        go_wp2_with fail
        have hId := ginv_below HIx.out rfl (below_drew (Below.refl _ _))
        have hPd : w6.drew.heap[wr.heap.size]? = some (Obj.cells #[Value.slice Ap (rd_T41 all j).f0.length cp, Value.float FloatKind.f64 (rd_T41 all j).f1] 41) := HPx.out
        obtain ⟨vs, h1, h2, h3, h4, h5⟩ := hId.rows.ex
        have hjv : jj < vs.length := by omega
        obtain ⟨u, hu⟩ : ∃ u, vs[jj]? = some u := ⟨vs[jj], List.getElem?_eq_getElem _⟩
        obtain ⟨o, ho⟩ : ∃ o, st1.outs[jj]? = some o := ⟨st1.outs[jj], List.getElem?_eq_getElem _⟩
        obtain ⟨gb, cap, rfl⟩ : ∃ gb cap, u13 = .slice (some ⟨gb, 0, none⟩) vs.length cap := by
          obtain ⟨A, c, rfl⟩ := Kd.R_slice h2
          obtain ⟨_, _, hC⟩ := Kd.R_reads' h2
          obtain ⟨ad, c', rfl, _⟩ := Kd.C_get hC ((none, 0, 0) : SL) (jj : Int) (by omega) (by omega)
          obtain ⟨gb, rfl⟩ := Kd.R_head h2
          exact ⟨gb, c, rfl⟩
        obtain ⟨cz, hcl, hcM, hcc, hfr⟩ := Kd.R_elem h2 ((none, 0, 0) : SL) (jj : Int) (by omega) (by omega)
        have hcz : cz = [sv u] := by
          have h : cz = [sv (vs.getD (jj : Int).toNat (none, 0, 0))] := hcM
          rw [h]; simp [List.getD_eq_getElem?_getD, hu]
        subst hcz
        have c0 : w6.drew.cell? ⟨gb, jj, none⟩ = some (.slice u.1 u.2.1 u.2.2) := by have := hcc 0 _ rfl; simpa [slK, Kd.scalar, sv] using this
        have f0 : w6.drew.frozen? ⟨gb, jj, none⟩ = false := by have := hfr 0; simpa [slK, Kd.scalar] using this
        have c1' : w6.drew.cell? ⟨wr.heap.size, 0, none⟩ = some (Value.slice Ap (rd_T41 all j).f0.length cp) := (blk_cell hPd 0).trans rfl
        have c2' : w6.drew.cell? ⟨wr.heap.size, 1, none⟩ = some (Value.float FloatKind.f64 (rd_T41 all j).f1) := (blk_cell hPd 1).trans rfl
        refine start_ (n := 11) (S := fun w' => w'.cell? ⟨gb, jj, none⟩ = some (.slice u.1 u.2.1 u.2.2) ∧ w'.cell? ⟨wr.heap.size, 0, none⟩ = some (Value.slice Ap (rd_T41 all j).f0.length cp) ∧ w'.cell? ⟨wr.heap.size, 1, none⟩ = some (Value.float FloatKind.f64 (rd_T41 all j).f1)) (ds := [10]) #[false, false, false, false, false, false, false, false, false, false, false] (by kernel_rfl) rfl rfl ⟨c0, c1', c2'⟩ (fun hHeld => ?_)
        have hsz : (rd_L5 st1.outs (jj : Int)).length < 1048576 := by have := HL2.out; rw [← HJ.out] at this; exact this
        have hod : rd_L5 st1.outs (jj : Int) = o := by simp [rd_L5, List.getD_eq_getElem?_getD, ho]
        have hFp : Kd.FK k41 w6.drew (fun k => k < w2.heap.size) (rd_T41 all j) [Value.slice Ap (rd_T41 all j).f0.length cp, Value.float FloatKind.f64 (rd_T41 all j).f1] := by
          have := HFp.out
          exact Kd.FK_step this (fun k hk _ => hId.below.block k hk)
        generalize w6.drew = w7 at hId hPd h2 h3 hcc hfr c0 f0 c1' c2' hHeld hFp ⊢
        have hs7 : wr.heap.size < w7.heap.size := (Array.getElem?_eq_some_iff.1 hPd).1
        obtain ⟨rows, hrl, hrR, hrf⟩ := inner_open (h3 jj u o hu ho)
        have hrn : rows.length < 1048576 := by rw [hrl, ← hod]; exact hsz
        have HId := hid hId
        have HPd := hid hPd
        have H2 := hid h2
        have H3 := hid h3
        have H4 := hid h4
        have HFp7 := hid hFp
        have HrR := hid hrR
        have Hrf := hid hrf
        have Hf0 := hid f0
        have q0 : (0 ≤ (jj : Int)) = True := eq_true (by omega)
        have q1 : ((jj : Int) < (vs.length : Int)) = True := eq_true (by omega)
        clear hId hPd h2 h3 h4 hFp hrR hrf f0 hcc hfr hcM hcl
        refine pure_ (i := 0) (N := some 78) (v := ?_) (a' := ?_) #[true, false, false, false, false, false, false, false, false, false, false] rfl rfl (by kernel_rfl) (fun _ _ _ h => h) (Or.inl ⟨by rfl, ?_⟩) ?_ ?_
        rotate_left
        · intro w'
          go_simp
          with_reducible rfl
        rotate_left
        · simp only [Act.put, List.setIfInBounds_toArray, List.set_cons_zero, List.set_cons_succ, i64_w, i32_w]
          rfl
        refine pure_ (i := 1) (N := some 79) (v := ?_) (a' := ?_) #[true, true, false, false, false, false, false, false, false, false, false] rfl rfl (by kernel_rfl) (fun _ _ _ h => h) (Or.inl ⟨by rfl, ?_⟩) ?_ ?_
        rotate_left
        · intro w'
          go_simp
          with_reducible rfl
        rotate_left
        · simp only [Act.put, List.setIfInBounds_toArray, List.set_cons_zero, List.set_cons_succ, i64_w, i32_w]
          rfl
        refine pure_ (i := 2) (N := some 80) (v := ?_) (a' := ?_) #[true, true, true, false, false, false, false, false, false, false, false] rfl rfl (by kernel_rfl) (fun _ _ _ h => h) (Or.inl ⟨by rfl, ?_⟩) ?_ ?_
        rotate_left
        · intro w'
          go_simp
          with_reducible rfl
        rotate_left
        · simp only [Act.put, List.setIfInBounds_toArray, List.set_cons_zero, List.set_cons_succ, i64_w, i32_w]
          rfl
        refine pure_ (i := 3) (N := some 81) (v := ?_) (a' := ?_) #[true, true, true, true, false, false, false, false, false, false, false] rfl rfl (by kernel_rfl) (fun _ _ _ h => h) (Or.inl ⟨by rfl, ?_⟩) ?_ ?_
        rotate_left
        · intro w'
          go_simp
          with_reducible rfl
        rotate_left
        · simp only [Act.put, List.setIfInBounds_toArray, List.set_cons_zero, List.set_cons_succ, i64_w, i32_w]
          rfl
        refine pure_ (i := 4) (N := some 82) (v := ?_) (a' := ?_) #[true, true, true, true, true, false, false, false, false, false, false] rfl rfl (by kernel_rfl) (fun _ _ _ h => h) (Or.inl ⟨by rfl, ?_⟩) ?_ ?_
        rotate_left
        · intro w'
          go_simp
          with_reducible rfl
        rotate_left
        · simp only [Act.put, List.setIfInBounds_toArray, List.set_cons_zero, List.set_cons_succ, i64_w, i32_w]
          rfl
        refine take_ (i := 5) (N := some 83) (v := ?_) (a' := ?_) #[true, true, true, true, true, true, false, false, false, false, false] rfl rfl (by kernel_rfl) (fun _ _ _ h => h) (Or.inl ⟨by rfl, ?_⟩) hHeld ?_ ?_
        rotate_left
        · rintro w' ⟨s0, s1, s2⟩
          go_simp
          with_reducible rfl
        rotate_left
        · simp only [Act.put, List.setIfInBounds_toArray, List.set_cons_zero, List.set_cons_succ, i64_w, i32_w]
          rfl
        refine take_ (i := 6) (N := some 84) (v := ?_) (a' := ?_) #[true, true, true, true, true, true, true, false, false, false, false] rfl rfl (by kernel_rfl) (fun _ _ _ h => h) (Or.inl ⟨by rfl, ?_⟩) hHeld ?_ ?_
        rotate_left
        · rintro w' ⟨s0, s1, s2⟩
          go_simp
          with_reducible rfl
        rotate_left
        · simp only [Act.put, List.setIfInBounds_toArray, List.set_cons_zero, List.set_cons_succ, i64_w, i32_w]
          rfl
        refine one_ (i := 7) (N := some 85) #[true, true, true, true, true, true, true, true, false, false, false] rfl rfl (by kernel_rfl) (by decide) (fun K hK => ?_)
        refine value_ (w1 := ?_) (v := ?_) (by rfl) rfl ?_ ?_
        rotate_left 2
        · go_simp
          constructor
          · rfl
          · rfl
        refine hK.out _ _ ⟨(World.cell?_alloc_lt _ _ _ (World.block_lt_of_cell? _ _ c0)).trans c0, (World.cell?_alloc_lt _ _ _ (World.block_lt_of_cell? _ _ c1')).trans c1', (World.cell?_alloc_lt _ _ _ (World.block_lt_of_cell? _ _ c2')).trans c2'⟩ (fun hHeld => ?_)
        clear hK K
        refine norm_ (a' := ?_) ?_ ?_
        rotate_left
        · show Act.put _ (some 85) _ = _
          simp only [Act.put, List.setIfInBounds_toArray, List.set_cons_zero, List.set_cons_succ, i64_w, i32_w]
          rfl
        have hne1 : some gb ≠ (sv u).ownBlock := by
          obtain ⟨cc, hcc⟩ := Kd.R_typed H2.out gb (by simp [Value.ownBlock])
          exact Kd.R_ne HrR.out hcc (by decide)
        have hne2 : some wr.heap.size ≠ (sv u).ownBlock := fun he => by have := h5 jj u hu _ he.symm; omega
        refine one_ (i := 8) (N := some 86) #[true, true, true, true, true, true, true, true, true, false, false] rfl rfl (by kernel_rfl) (by decide) (fun K hK => ?_)
        refine Kd.R_append_step (Kd.raw 2) (w0 := w2) w2.heap.size (by rfl) (.tmp 83) (.tmp 85) 22 41 (.agg #[(.slice none 0 0), (.float .f64 0)]) 32 rfl Tryz.underlying22 info41 rfl (by decide) (by omega) (sv u) rows [Value.slice Ap (rd_T41 all j).f0.length cp, Value.float FloatKind.f64 (rd_T41 all j).f1] [Value.slice Ap (rd_T41 all j).f0.length cp, Value.float FloatKind.f64 (rd_T41 all j).f1] (fun _ => True) (fun _ => False) rfl rfl ⟨rfl, rfl, by simp [Value.oneCell']⟩ (fun _ h => h.elim) (fun _ _ => trivial) ?aO HId.out.below HId.out.below.size ?aL ?_
        (case aO => exact HrR.out)
        (case aL => omega)
        intro v1 w8 hR8 hb8 hg8 hat8
        obtain ⟨⟨Au, nu, cu⟩, hv1, hN8⟩ := inner_more hrl HrR.out Hrf.out HFp7.out hg8 hR8
        have hv1' : v1 = .slice Au nu cu := hv1
        clear hv1
        subst hv1'
        have c0' := hg8.cell c0 hne1
        have c1'' := hg8.cell c1' hne2
        have c2'' := hg8.cell c2' hne2
        have f0' : w8.frozen? ⟨gb, jj, none⟩ = false := (hg8.frozen_far ⟨gb, jj, none⟩ (World.block_lt_of_cell? _ _ c0) hne1).trans Hf0.out
        have HN8 := hid hN8
        have Hg8 := hid hg8
        have Hat8 := hid hat8
        clear hN8 hg8 hat8 hb8 hR8
        refine hK.out _ _ ⟨c0', c1'', c2''⟩ (fun hHeld => ?_)
        clear hK K
        refine norm_ (a' := ?_) ?_ ?_
        rotate_left
        · show Act.put _ (some 86) _ = _
          simp only [Act.put, List.setIfInBounds_toArray, List.set_cons_zero, List.set_cons_succ, i64_w, i32_w]
          rfl
        refine pure_ (i := 9) (N := some 87) (v := ?_) (a' := ?_) #[true, true, true, true, true, true, true, true, true, true, false] rfl rfl (by kernel_rfl) (fun _ _ _ h => h) (Or.inl ⟨by rfl, ?_⟩) ?_ ?_
        rotate_left
        · intro w'
          go_simp
          with_reducible rfl
        rotate_left
        · simp only [Act.put, List.setIfInBounds_toArray, List.set_cons_zero, List.set_cons_succ, i64_w, i32_w]
          rfl
        refine last_ (i := 10) (N := none) #[true, true, true, true, true, true, true, true, true, true, true] rfl rfl (by kernel_rfl) (by decide) (fun K hK => ?_)
        refine skip_ (w1 := ?_) (by rfl) rfl ?_ ?_
        rotate_left
        · go_simp
          rfl
        obtain ⟨hRw, hg9⟩ := rows_put (u' := (Au, nu, cu)) h1 H3.out H4.out H2.out hu ho Hg8.out Hat8.out HN8.out
        have hTg := Kd.R_typed H2.out gb (by simp [Value.ownBlock])
        have hb8 := gbase_typed HId.out.toGBase Hg8.out rfl (q := 41) (by decide) (Kd.N_base (H3.out jj u o hu ho)) (Kd.N_typed (H3.out jj u o hu ho))
        have hTg8 : ∃ c, w8.heap[gb]? = some (.cells c 22 (0, 0)) := by
          obtain ⟨c, hc⟩ := hTg
          exact ⟨c, (Hg8.out.block gb (Array.getElem?_eq_some_iff.1 hc).1 hne1).trans hc⟩
        have hb9 := gbase_typed hb8 hg9 rfl (q := 22) (by decide) (fun k hk => by injection hk with hk; subst hk; exact Kd.R_base H2.out gb (by simp [Value.ownBlock])) (fun k hk => by injection hk with hk; subst hk; exact hTg8)
        have hI9 : GInv w2.heap.size (w8.setCell ⟨gb, jj, none⟩ (sv (Au, nu, cu))).heap.size w2 (w8.setCell ⟨gb, jj, none⟩ (sv (Au, nu, cu))) w2.heap.size (w2.heap.size + 1) (.slice (some ⟨gb, 0, none⟩) vs.length cap) (st1.put (strOfNums kb1).data.toList (rd_T41 all j)) :=
          { below := hb9.below, map := hb9.map, mpB := hb9.mpB, bxB := hb9.bxB, box := hb9.box, lk := by have := hb9.lk; simpa [GSt.put] using this, ls := by have := hb9.ls; simpa [GSt.put] using this,
            rows := by
              have e : (st1.put (strOfNums kb1).data.toList (rd_T41 all j)).outs = st1.outs.set jj (o ++ [rd_T41 all j]) := by simp only [GSt.put]; rw [← HJ.out, hod]
              rw [e]; exact hRw }
        have HI9 := hid hI9
        clear hI9 hb9 hb8 hTg hTg8 hRw hg9
        refine hK.out _ _ ?_
        clear hK K
        refine done_ (by kernel_rfl) ?_
        go_wp2
        go_roundw
        case rel => exact ⟨j + 1, _, by omega, by go_num, HI9, HR⟩
        case measure => simp [intOf]; omega
      | false =>
        have hm : (strOfNums kb1).data.toList ∉ st.ks := of_decide_eq_false hmem
        rw [hmem, if_neg hm] at hlook
        have hss : (strOfNums kb1).size ≤ maxLen := by have := HM.out; simp [strOfNums, ByteArray.size, maxLen]; omega
        have hlo := HL1.out
        have hls := HI6.out.ls
        have hlk := HI6.out.lk
        obtain ⟨w7, hup, hmap7, hg7⟩ := imap_store HI6.out.map (by rw [hls]; simp [maxLen]; omega) (strOfNums kb1) hss hm (by omega)
        rw [hls] at hup
        obtain ⟨A13, c13, rfl⟩ : ∃ A c, u13 = .slice A st.outs.length c := by
          obtain ⟨vs, h1, h2, _⟩ := HI6.out.rows.ex
          obtain ⟨A, c, rfl⟩ := Kd.R_slice h2
          exact ⟨A, c, by rw [h1]⟩
        obtain ⟨vk, hbox, hkeys⟩ := HI6.out.box
        obtain ⟨esm, clm, hblm⟩ := imap_block HI6.out.map
        have hbx7 : w7.heap[w2.heap.size + 1]? = some (.cells #[vk] 108 (0, 0)) := (hg7.block _ (Array.getElem?_eq_some_iff.1 hbox).1 (by simp)).trans hbox
        have hkeys7 := R_kept hkeys hg7 (fun k q c hk _ => by injection hk with hk; subst hk; rw [hblm]; simp)
        have hrows7 := rows_kept HI6.out.rows hg7 (fun k hk => by injection hk with hk; omega) (fun k q c hk _ => by injection hk with hk; subst hk; rw [hblm]; simp)
        have hbel7 := HI6.out.below.trans (grown_below hg7 (fun k hk => by injection hk with hk; omega) HI6.out.below.size)
        have hP7 := (hg7.block _ (Array.getElem?_eq_some_iff.1 HP6.out).1 (by have := HSx0.out; simp; omega)).trans HP6.out
        have hOg7 := R_kept HOg6.out hg7 (fun k q c hk _ => by injection hk with hk; subst hk; rw [hblm]; simp)
        have hs7 := hg7.size
        have HMap7 := hid hmap7
        have HBx7 := hid hbx7
        have HK7 := hid hkeys7
        have HRw7 := hid hrows7
        have HBel7 := hid hbel7
        have HP7 := hid hP7
        have HOg7 := hid hOg7
        have cb7 : w7.cell? ⟨w2.heap.size + 1, 0, none⟩ = some vk := (blk_cell hbx7 0).trans rfl
        have HLK := hid hlk
        have HLS := hid hls
        clear hmap7 hbx7 hkeys7 hrows7 hbel7 hP7 hOg7 hbox hkeys hblm hg7 hlk hls
        go_wp2_with (first
          | ((with_reducible refine gate_builtin (b := .append) (xs := #[.tmp 71, .tmp 73]) rfl ?_); at_builtin
             refine Kd.R_append (Kd.slice 89 k89) (w0 := w2) w2.heap.size rfl (.tmp 71) (.tmp 73) 108 39 (.slice none 0 0) 24 rfl Tryz.underlying108 info39 rfl (by decide) (by omega) vk st.keys g [Value.slice Ag g.length cg] (fun _ => True) (fun k_ => True ∧ some k_ ≠ vk.ownBlock) rfl rfl ?aP (fun _ h => h) (fun _ _ => trivial) HK7.out HBel7.out HBel7.out.size ?aL ?_
             (case aP => exact Kd.M_row (Kd.R_lower (Kd.R_apart' HOg7.out (Kd.R_typed HK7.out) (by decide)) (by have := HS4.out; have := HSx0.out; omega)))
             (case aL => have := HLK.out; omega)
             intro v8 w8 hk8 hb8 hg8 hat8
             obtain ⟨A8, c8, e8⟩ := Kd.R_slice hk8
             have e8' : v8 = .slice A8 (st.keys.length + 1) c8 := by rw [e8]; simp
             subst e8'
             clear e8
             have hty8 := Kd.R_typed HK7.out
             have hB8 := Kd.R_base HK7.out
             have hbx8 := box_t HBx7.out hg8 39 (by decide) hty8
             have HMap9 := hid (imap_t (imap_t HMap7.out hg8 39 hty8) (grown_set w8 (w2.heap.size + 1) 0 (.slice A8 (st.keys.length + 1) c8)) 108 (fun k hk => by injection hk with hk; subst hk; exact ⟨_, hbx8⟩))
             have HK9 := hid (R_t hk8 (grown_set w8 (w2.heap.size + 1) 0 (.slice A8 (st.keys.length + 1) c8)) 108 (by decide) (fun k hk => by injection hk with hk; subst hk; exact ⟨_, hbx8⟩))
             have HBx9 := hid (blk_put hbx8 0 (.slice A8 (st.keys.length + 1) c8) (cs' := #[.slice A8 (st.keys.length + 1) c8]) rfl)
             have HRw9 := hid (rows_t (rows_t HRw7.out hg8 hB8 39 (by decide) hty8) (grown_set w8 (w2.heap.size + 1) 0 (.slice A8 (st.keys.length + 1) c8)) (fun k hk => by injection hk with hk; omega) 108 (by decide) (fun k hk => by injection hk with hk; subst hk; exact ⟨_, hbx8⟩))
             have HP9 := hid (box_t (box_t HP7.out hg8 39 (by decide) hty8) (grown_set w8 (w2.heap.size + 1) 0 (.slice A8 (st.keys.length + 1) c8)) 108 (by decide) (fun k hk => by injection hk with hk; subst hk; exact ⟨_, hbx8⟩))
             have HBel9 := hid (hb8.trans (grown_below (grown_set w8 (w2.heap.size + 1) 0 (.slice A8 (st.keys.length + 1) c8)) (fun k hk => by injection hk with hk; omega) hb8.size))
             have cb8 : w8.cell? ⟨w2.heap.size + 1, 0, none⟩ = some vk := (blk_cell hbx8 0).trans rfl
             have fb8 : w8.frozen? ⟨w2.heap.size + 1, 0, none⟩ = false := blk_frozen hbx8 0
             have hs8 := hg8.size
             clear hty8 hB8 hbx8 hk8 hb8 hg8 hat8 HMap7 HK7 HBx7 HRw7 HP7 HBel7 HOg7)
          | ((with_reducible refine gate_builtin (b := .append) (xs := #[.tmp 75, .tmp 76]) rfl ?_); at_builtin
             refine Hid.out ?_))
        refine hid ?_
        obtain ⟨vsn, hn1, hn2, hn3, hn4, hn5⟩ := HRw9.out.ex
        refine Kd.R_append slK (w0 := w2) w2.heap.size rfl (.tmp 75) (.tmp 76) 49 22 (.slice none 0 0) 24 rfl Tryz.underlying49 info22 rfl (by decide) (by omega) (.slice A13 st.outs.length c13) vsn ((none, 0, 0) : SL) [.slice none 0 0] (fun _ => True) (fun _ => False) rfl (by first | (go_simp; done) | (go_simp; rfl)) rfl (fun _ h => h.elim) (fun _ _ => trivial) hn2 HBel9.out HBel9.out.size ?aL ?_
        (case aL => rw [hn1]; omega)
        intro v10 w10 hr10 hb10 hg10 hat10
        have hty := Kd.R_typed hn2
        have HRw10 := hid (rows_app vsn hn1 hn3 hn4 hn5 hn2 hg10 hr10)
        have HMap10 := hid (imap_t HMap9.out hg10 22 hty)
        have HK10 := hid (R_t HK9.out hg10 22 (by decide) hty)
        have HBx10 := hid (box_t HBx9.out hg10 22 (by decide) hty)
        have HP10 := hid (box_t HP9.out hg10 22 (by decide) hty)
        have HBel10 := hid hb10
        clear hn1 hn2 hn3 hn4 hn5 vsn hr10 hb10 hg10 hat10 hty HMap9 HK9 HBx9 HRw9 HP9 HBel9
        go_wp2_with fail
        obtain ⟨st1, hst1⟩ : ∃ s, s = st.met g (strOfNums kb1).data.toList := ⟨_, rfl⟩
        have hst2 : st1 = ⟨st.keys ++ [g], st.ks ++ [(strOfNums kb1).data.toList], st.outs ++ [[]]⟩ := by rw [hst1]; simp [GSt.met, hm]
        rw [← hst1] at HL2 HR
        obtain ⟨jj, hjj⟩ : ∃ jj, jj = st1.ks.idxOf (strOfNums kb1).data.toList := ⟨_, rfl⟩
        have hje : st.outs.length = jj := by
          rw [hjj, hst2, ← HLS.out]
          simp [List.idxOf_append, hm]
        have hjl : jj < st1.outs.length := by rw [hst2, ← hje]; simp
        have HIx : Hid (GInv w2.heap.size wr.heap.size w2 w10 w2.heap.size (w2.heap.size + 1) v10 st1) := hid
          { below := HBel10.out, map := by have := HMap10.out; rw [hst2]; simpa using this, mpB := Nat.le_refl _, bxB := by omega, box := ⟨_, HBx10.out, by rw [hst2]; exact HK10.out⟩,
            lk := by have := HLK.out; rw [hst2]; simp [this], ls := by have := HLS.out; rw [hst2]; simp [this], rows := by rw [hst2]; exact HRw10.out }
        have HJ := hid hjj
        have HPx := HP10
        simp only [hje]
        clear hm hst2 hmem hst1 hjj hje
        have hId := ginv_below HIx.out rfl (below_drew (Below.refl _ _))
        have hPd : w10.drew.heap[wr.heap.size]? = some (Obj.cells #[Value.slice Ap (rd_T41 all j).f0.length cp, Value.float FloatKind.f64 (rd_T41 all j).f1] 41) := HPx.out
        obtain ⟨vs, h1, h2, h3, h4, h5⟩ := hId.rows.ex
        have hjv : jj < vs.length := by omega
        obtain ⟨u, hu⟩ : ∃ u, vs[jj]? = some u := ⟨vs[jj], List.getElem?_eq_getElem _⟩
        obtain ⟨o, ho⟩ : ∃ o, st1.outs[jj]? = some o := ⟨st1.outs[jj], List.getElem?_eq_getElem _⟩
        obtain ⟨gb, cap, rfl⟩ : ∃ gb cap, v10 = .slice (some ⟨gb, 0, none⟩) vs.length cap := by
          obtain ⟨A, c, rfl⟩ := Kd.R_slice h2
          obtain ⟨_, _, hC⟩ := Kd.R_reads' h2
          obtain ⟨ad, c', rfl, _⟩ := Kd.C_get hC ((none, 0, 0) : SL) (jj : Int) (by omega) (by omega)
          obtain ⟨gb, rfl⟩ := Kd.R_head h2
          exact ⟨gb, c, rfl⟩
        obtain ⟨cz, hcl, hcM, hcc, hfr⟩ := Kd.R_elem h2 ((none, 0, 0) : SL) (jj : Int) (by omega) (by omega)
        have hcz : cz = [sv u] := by
          have h : cz = [sv (vs.getD (jj : Int).toNat (none, 0, 0))] := hcM
          rw [h]; simp [List.getD_eq_getElem?_getD, hu]
        subst hcz
        have c0 : w10.drew.cell? ⟨gb, jj, none⟩ = some (.slice u.1 u.2.1 u.2.2) := by have := hcc 0 _ rfl; simpa [slK, Kd.scalar, sv] using this
        have f0 : w10.drew.frozen? ⟨gb, jj, none⟩ = false := by have := hfr 0; simpa [slK, Kd.scalar] using this
        have c1' : w10.drew.cell? ⟨wr.heap.size, 0, none⟩ = some (Value.slice Ap (rd_T41 all j).f0.length cp) := (blk_cell hPd 0).trans rfl
        have c2' : w10.drew.cell? ⟨wr.heap.size, 1, none⟩ = some (Value.float FloatKind.f64 (rd_T41 all j).f1) := (blk_cell hPd 1).trans rfl
        refine start_ (n := 11) (S := fun w' => w'.cell? ⟨gb, jj, none⟩ = some (.slice u.1 u.2.1 u.2.2) ∧ w'.cell? ⟨wr.heap.size, 0, none⟩ = some (Value.slice Ap (rd_T41 all j).f0.length cp) ∧ w'.cell? ⟨wr.heap.size, 1, none⟩ = some (Value.float FloatKind.f64 (rd_T41 all j).f1)) (ds := [10]) #[false, false, false, false, false, false, false, false, false, false, false] (by kernel_rfl) rfl rfl ⟨c0, c1', c2'⟩ (fun hHeld => ?_)
        have hsz : (rd_L5 st1.outs (jj : Int)).length < 1048576 := by have := HL2.out; rw [← HJ.out] at this; exact this
        have hod : rd_L5 st1.outs (jj : Int) = o := by simp [rd_L5, List.getD_eq_getElem?_getD, ho]
        have hFp : Kd.FK k41 w10.drew (fun k => k < w2.heap.size) (rd_T41 all j) [Value.slice Ap (rd_T41 all j).f0.length cp, Value.float FloatKind.f64 (rd_T41 all j).f1] := by
          have := HFp.out
          exact Kd.FK_step this (fun k hk _ => hId.below.block k hk)
        generalize w10.drew = w7 at hId hPd h2 h3 hcc hfr c0 f0 c1' c2' hHeld hFp ⊢
        have hs7 : wr.heap.size < w7.heap.size := (Array.getElem?_eq_some_iff.1 hPd).1
        obtain ⟨rows, hrl, hrR, hrf⟩ := inner_open (h3 jj u o hu ho)
        have hrn : rows.length < 1048576 := by rw [hrl, ← hod]; exact hsz
        have HId := hid hId
        have HPd := hid hPd
        have H2 := hid h2
        have H3 := hid h3
        have H4 := hid h4
        have HFp7 := hid hFp
        have HrR := hid hrR
        have Hrf := hid hrf
        have Hf0 := hid f0
        have q0 : (0 ≤ (jj : Int)) = True := eq_true (by omega)
        have q1 : ((jj : Int) < (vs.length : Int)) = True := eq_true (by omega)
        clear hId hPd h2 h3 h4 hFp hrR hrf f0 hcc hfr hcM hcl
        refine pure_ (i := 0) (N := some 78) (v := ?_) (a' := ?_) #[true, false, false, false, false, false, false, false, false, false, false] rfl rfl (by kernel_rfl) (fun _ _ _ h => h) (Or.inl ⟨by rfl, ?_⟩) ?_ ?_
        rotate_left
        · intro w'
          go_simp
          with_reducible rfl
        rotate_left
        · simp only [Act.put, List.setIfInBounds_toArray, List.set_cons_zero, List.set_cons_succ, i64_w, i32_w]
          rfl
        refine pure_ (i := 1) (N := some 79) (v := ?_) (a' := ?_) #[true, true, false, false, false, false, false, false, false, false, false] rfl rfl (by kernel_rfl) (fun _ _ _ h => h) (Or.inl ⟨by rfl, ?_⟩) ?_ ?_
        rotate_left
        · intro w'
          go_simp
          with_reducible rfl
        rotate_left
        · simp only [Act.put, List.setIfInBounds_toArray, List.set_cons_zero, List.set_cons_succ, i64_w, i32_w]
          rfl
        refine pure_ (i := 2) (N := some 80) (v := ?_) (a' := ?_) #[true, true, true, false, false, false, false, false, false, false, false] rfl rfl (by kernel_rfl) (fun _ _ _ h => h) (Or.inl ⟨by rfl, ?_⟩) ?_ ?_
        rotate_left
        · intro w'
          go_simp
          with_reducible rfl
        rotate_left
        · simp only [Act.put, List.setIfInBounds_toArray, List.set_cons_zero, List.set_cons_succ, i64_w, i32_w]
          rfl
        refine pure_ (i := 3) (N := some 81) (v := ?_) (a' := ?_) #[true, true, true, true, false, false, false, false, false, false, false] rfl rfl (by kernel_rfl) (fun _ _ _ h => h) (Or.inl ⟨by rfl, ?_⟩) ?_ ?_
        rotate_left
        · intro w'
          go_simp
          with_reducible rfl
        rotate_left
        · simp only [Act.put, List.setIfInBounds_toArray, List.set_cons_zero, List.set_cons_succ, i64_w, i32_w]
          rfl
        refine pure_ (i := 4) (N := some 82) (v := ?_) (a' := ?_) #[true, true, true, true, true, false, false, false, false, false, false] rfl rfl (by kernel_rfl) (fun _ _ _ h => h) (Or.inl ⟨by rfl, ?_⟩) ?_ ?_
        rotate_left
        · intro w'
          go_simp
          with_reducible rfl
        rotate_left
        · simp only [Act.put, List.setIfInBounds_toArray, List.set_cons_zero, List.set_cons_succ, i64_w, i32_w]
          rfl
        refine take_ (i := 5) (N := some 83) (v := ?_) (a' := ?_) #[true, true, true, true, true, true, false, false, false, false, false] rfl rfl (by kernel_rfl) (fun _ _ _ h => h) (Or.inl ⟨by rfl, ?_⟩) hHeld ?_ ?_
        rotate_left
        · rintro w' ⟨s0, s1, s2⟩
          go_simp
          with_reducible rfl
        rotate_left
        · simp only [Act.put, List.setIfInBounds_toArray, List.set_cons_zero, List.set_cons_succ, i64_w, i32_w]
          rfl
        refine take_ (i := 6) (N := some 84) (v := ?_) (a' := ?_) #[true, true, true, true, true, true, true, false, false, false, false] rfl rfl (by kernel_rfl) (fun _ _ _ h => h) (Or.inl ⟨by rfl, ?_⟩) hHeld ?_ ?_
        rotate_left
        · rintro w' ⟨s0, s1, s2⟩
          go_simp
          with_reducible rfl
        rotate_left
        · simp only [Act.put, List.setIfInBounds_toArray, List.set_cons_zero, List.set_cons_succ, i64_w, i32_w]
          rfl
        refine one_ (i := 7) (N := some 85) #[true, true, true, true, true, true, true, true, false, false, false] rfl rfl (by kernel_rfl) (by decide) (fun K hK => ?_)
        refine value_ (w1 := ?_) (v := ?_) (by rfl) rfl ?_ ?_
        rotate_left 2
        · go_simp
          constructor
          · rfl
          · rfl
        refine hK.out _ _ ⟨(World.cell?_alloc_lt _ _ _ (World.block_lt_of_cell? _ _ c0)).trans c0, (World.cell?_alloc_lt _ _ _ (World.block_lt_of_cell? _ _ c1')).trans c1', (World.cell?_alloc_lt _ _ _ (World.block_lt_of_cell? _ _ c2')).trans c2'⟩ (fun hHeld => ?_)
        clear hK K
        refine norm_ (a' := ?_) ?_ ?_
        rotate_left
        · show Act.put _ (some 85) _ = _
          simp only [Act.put, List.setIfInBounds_toArray, List.set_cons_zero, List.set_cons_succ, i64_w, i32_w]
          rfl
        have hne1 : some gb ≠ (sv u).ownBlock := by
          obtain ⟨cc, hcc⟩ := Kd.R_typed H2.out gb (by simp [Value.ownBlock])
          exact Kd.R_ne HrR.out hcc (by decide)
        have hne2 : some wr.heap.size ≠ (sv u).ownBlock := fun he => by have := h5 jj u hu _ he.symm; omega
        refine one_ (i := 8) (N := some 86) #[true, true, true, true, true, true, true, true, true, false, false] rfl rfl (by kernel_rfl) (by decide) (fun K hK => ?_)
        refine Kd.R_append_step (Kd.raw 2) (w0 := w2) w2.heap.size (by rfl) (.tmp 83) (.tmp 85) 22 41 (.agg #[(.slice none 0 0), (.float .f64 0)]) 32 rfl Tryz.underlying22 info41 rfl (by decide) (by omega) (sv u) rows [Value.slice Ap (rd_T41 all j).f0.length cp, Value.float FloatKind.f64 (rd_T41 all j).f1] [Value.slice Ap (rd_T41 all j).f0.length cp, Value.float FloatKind.f64 (rd_T41 all j).f1] (fun _ => True) (fun _ => False) rfl rfl ⟨rfl, rfl, by simp [Value.oneCell']⟩ (fun _ h => h.elim) (fun _ _ => trivial) ?aO HId.out.below HId.out.below.size ?aL ?_
        (case aO => exact HrR.out)
        (case aL => omega)
        intro v1 w8 hR8 hb8 hg8 hat8
        obtain ⟨⟨Au, nu, cu⟩, hv1, hN8⟩ := inner_more hrl HrR.out Hrf.out HFp7.out hg8 hR8
        have hv1' : v1 = .slice Au nu cu := hv1
        clear hv1
        subst hv1'
        have c0' := hg8.cell c0 hne1
        have c1'' := hg8.cell c1' hne2
        have c2'' := hg8.cell c2' hne2
        have f0' : w8.frozen? ⟨gb, jj, none⟩ = false := (hg8.frozen_far ⟨gb, jj, none⟩ (World.block_lt_of_cell? _ _ c0) hne1).trans Hf0.out
        have HN8 := hid hN8
        have Hg8 := hid hg8
        have Hat8 := hid hat8
        clear hN8 hg8 hat8 hb8 hR8
        refine hK.out _ _ ⟨c0', c1'', c2''⟩ (fun hHeld => ?_)
        clear hK K
        refine norm_ (a' := ?_) ?_ ?_
        rotate_left
        · show Act.put _ (some 86) _ = _
          simp only [Act.put, List.setIfInBounds_toArray, List.set_cons_zero, List.set_cons_succ, i64_w, i32_w]
          rfl
        refine pure_ (i := 9) (N := some 87) (v := ?_) (a' := ?_) #[true, true, true, true, true, true, true, true, true, true, false] rfl rfl (by kernel_rfl) (fun _ _ _ h => h) (Or.inl ⟨by rfl, ?_⟩) ?_ ?_
        rotate_left
        · intro w'
          go_simp
          with_reducible rfl
        rotate_left
        · simp only [Act.put, List.setIfInBounds_toArray, List.set_cons_zero, List.set_cons_succ, i64_w, i32_w]
          rfl
        refine last_ (i := 10) (N := none) #[true, true, true, true, true, true, true, true, true, true, true] rfl rfl (by kernel_rfl) (by decide) (fun K hK => ?_)
        refine skip_ (w1 := ?_) (by rfl) rfl ?_ ?_
        rotate_left
        · go_simp
          rfl
        obtain ⟨hRw, hg9⟩ := rows_put (u' := (Au, nu, cu)) h1 H3.out H4.out H2.out hu ho Hg8.out Hat8.out HN8.out
        have hTg := Kd.R_typed H2.out gb (by simp [Value.ownBlock])
        have hb8 := gbase_typed HId.out.toGBase Hg8.out rfl (q := 41) (by decide) (Kd.N_base (H3.out jj u o hu ho)) (Kd.N_typed (H3.out jj u o hu ho))
        have hTg8 : ∃ c, w8.heap[gb]? = some (.cells c 22 (0, 0)) := by
          obtain ⟨c, hc⟩ := hTg
          exact ⟨c, (Hg8.out.block gb (Array.getElem?_eq_some_iff.1 hc).1 hne1).trans hc⟩
        have hb9 := gbase_typed hb8 hg9 rfl (q := 22) (by decide) (fun k hk => by injection hk with hk; subst hk; exact Kd.R_base H2.out gb (by simp [Value.ownBlock])) (fun k hk => by injection hk with hk; subst hk; exact hTg8)
        have hI9 : GInv w2.heap.size (w8.setCell ⟨gb, jj, none⟩ (sv (Au, nu, cu))).heap.size w2 (w8.setCell ⟨gb, jj, none⟩ (sv (Au, nu, cu))) w2.heap.size (w2.heap.size + 1) (.slice (some ⟨gb, 0, none⟩) vs.length cap) (st1.put (strOfNums kb1).data.toList (rd_T41 all j)) :=
          { below := hb9.below, map := hb9.map, mpB := hb9.mpB, bxB := hb9.bxB, box := hb9.box, lk := by have := hb9.lk; simpa [GSt.put] using this, ls := by have := hb9.ls; simpa [GSt.put] using this,
            rows := by
              have e : (st1.put (strOfNums kb1).data.toList (rd_T41 all j)).outs = st1.outs.set jj (o ++ [rd_T41 all j]) := by simp only [GSt.put]; rw [← HJ.out, hod]
              rw [e]; exact hRw }
        have HI9 := hid hI9
        clear hI9 hb9 hb8 hTg hTg8 hRw hg9
        refine hK.out _ _ ?_
        clear hK K
        refine done_ (by kernel_rfl) ?_
        go_wp2
        go_roundw
        case rel => exact ⟨j + 1, _, by omega, by go_num, HI9, HR⟩
        case measure => simp [intOf]; omega
    · obtain rfl : j = all.length := by omega
      have hfin : st = fin := by have := HG.out; rw [List.drop_length] at this; exact Option.some.inj this
      subst hfin
      have HFl := hid hfl
      have HIe := HI
      clear hmm hmax hj hlt HI HG
      have HI := HIe
      clear HIe
      obtain ⟨A13, c13, rfl⟩ : ∃ A c, u13 = .slice A st.outs.length c := by
        obtain ⟨vs, h1, h2, _⟩ := HI.out.rows.ex
        obtain ⟨A, c, rfl⟩ := Kd.R_slice h2
        exact ⟨A, c, by rw [h1]⟩
      clear hfl
      go_wp2_with (first
        | ((with_reducible refine gate_dst (N := 91) rfl ?_)
           refine Kd.R_make (Kd.int .i64) (w0 := w2) w2.heap.size 3 rfl (N := 91) rfl 113 _ _ rfl (st.outs.length : Int) rfl rfl Tryz.underlying113 (.int .i64 0) 8 info3 rfl (by decide) (by omega) (0 : Int) (ok := fun _ => True) (okp := fun _ => False) rfl (fun _ h => h.elim) trivial (by omega) (by have := HFl.out; omega) HI.out.below HI.out.below.size ?_
           intro v21 wm hrm hbm hgm hatm
           have HIm := hid (ginv_kept HI.out hgm rfl (fun k e => by cases e) (by simp) (by simp) (fun k q c e => by cases e))
           have HRm := hid (show (Kd.int .i64).R 3 wm w2.heap.size (fun _ => True) v21 (ordl st.outs.length 0) from by rw [← ordl_zero]; simpa using hrm)
           obtain ⟨A21, c21, e21⟩ := Kd.R_slice HRm.out
           have e21' : v21 = .slice A21 st.outs.length c21 := by rw [e21]; simp [ordl]
           subst e21'
           clear e21 hrm hbm hgm hatm))
      go_loopw [94] (fun i wr2 => ∃ m : Nat, m ≤ st.outs.length ∧ i = .int .i64 m ∧ Hid (∃ lim, GInv w2.heap.size lim w2 wr2 w2.heap.size (w2.heap.size + 1) (.slice A13 st.outs.length c13) st) ∧ Hid ((Kd.int .i64).R 3 wr2 w2.heap.size (fun _ => True) (.slice A21 st.outs.length c21) (ordl st.outs.length m))) (fun i _ => st.outs.length - (intOf i).toNat)
      case atStart => exact ⟨0, Nat.zero_le _, rfl, hid ⟨_, HIm.out⟩, HRm⟩
      case round =>
        obtain ⟨m, hm, rfl, HI2, HR2'⟩ := hrel
        clear HIm HRm
        by_cases hlt2 : m < st.outs.length
        · obtain ⟨lim2, HI2⟩ := HI2.out
          obtain ⟨-, -, hC⟩ := Kd.R_reads' HR2'.out
          obtain ⟨ad2, _, rfl, -⟩ := Kd.C_get hC (0 : Int) (m : Int) (by omega) (by simp [ordl]; omega)
          obtain ⟨gi, rfl⟩ := Kd.R_head HR2'.out
          obtain ⟨cz, hcl, hcM, hcc, hfr⟩ := Kd.R_elem HR2'.out (0 : Int) (m : Int) (by omega) (by omega)
          have hcz : cz = [.int .i64 ((ordl st.outs.length m).getD (m : Int).toNat 0)] := hcM
          subst hcz
          have ce : wr.cell? ⟨gi, m, none⟩ = some (.int .i64 ((ordl st.outs.length m).getD (m : Int).toNat 0)) := by have := hcc 0 _ rfl; simpa [Kd.int, Kd.scalar] using this
          generalize (ordl st.outs.length m).getD (m : Int).toNat 0 = z0 at ce
          have fe : wr.frozen? ⟨gi, m, none⟩ = false := by have := hfr 0; simpa [Kd.int, Kd.scalar] using this
          have hty := Kd.R_typed HR2'.out gi (by simp [Value.ownBlock])
          have hbs := Kd.R_base HR2'.out gi (by simp [Value.ownBlock])
          have hgs := grown_set wr gi m (.int .i64 (m : Int))
          have HI3 : Hid (∃ lim, GInv w2.heap.size lim w2 (wr.setCell ⟨gi, m, none⟩ (.int .i64 (m : Int))) w2.heap.size (w2.heap.size + 1) (.slice A13 st.outs.length c13) st) := hid ⟨lim2, { toGBase := gbase_typed HI2.toGBase hgs rfl (q := 3) (by decide) (fun k hk => by injection hk with hk; subst hk; exact hbs) (fun k hk => by injection hk with hk; subst hk; exact hty), rows := rows_t HI2.rows hgs (fun k hk => by injection hk with hk; subst hk; exact hbs) 3 (by decide) (fun k hk => by injection hk with hk; subst hk; exact hty) }⟩
          have HR3 : Hid ((Kd.int .i64).R 3 (wr.setCell ⟨gi, m, none⟩ (.int .i64 (m : Int))) w2.heap.size (fun _ => True) (.slice (some ⟨gi, 0, none⟩) st.outs.length c21) (ordl st.outs.length (m + 1))) := hid (by
            have := Kd.R_putn (enc := Value.int .i64) (h1 := fun _ => rfl) HR2'.out (m : Int) (m : Int)
            simp only [Int.toNat_natCast] at this
            rw [← ordl_step _ _ hlt2]; exact this)
          clear hC hcl hcM hcc hfr hty hbs hgs HI2 HR2'
          have HLt := hid hlt2
          have hmx : st.outs.length ≤ 9223372036854775807 := by have := HFl.out; omega
          go_wp2
          go_roundw
          case rel =>
            have := HFl.out
            have := HLt.out
            exact ⟨m + 1, by omega, by go_num, HI3, HR3⟩
          case measure =>
            have := HFl.out
            have := HLt.out
            simp [intOf]; omega
        · obtain rfl : m = st.outs.length := by omega
          go_wp2_with fail
          obtain ⟨lim3, HI3⟩ := HI2.out
          obtain ⟨vk, hbox, hkeys⟩ := HI3.box
          have hlk := HI3.lk
          have HRo := hid (show (Kd.int .i64).R 3 wr w2.heap.size (fun _ => True) (.slice A21 st.outs.length c21) ((List.finRange st.outs.length).map fun i => (i.1 : Int)) from by rw [← ordl_all]; exact HR2'.out)
          have hty := Kd.R_typed HRo.out
          refine (sort_fin st.outs.length (by have := HFl.out; omega) (fun x y => cmpLs (st.keys.getD x.1 []) (st.keys.getD y.1 [])) (swo_sub cmpLs_lin.swo fun x : Fin st.outs.length => st.keys.getD x.1 []) 88 #[.pointer (some ⟨w2.heap.size + 1, 0, none⟩)] (enters_of Tryz.func88 (by kernel_rfl) rfl) w2.heap.size (fun _ => True) _ wr HRo.out (fun W' x y hk => ?_)).mono ?_
          · have hg := kept_grown hk
            have h1 := groupsLess_calls W' w2.heap.size (w2.heap.size + 1) (fun _ => True) vk st.keys (box_t hbox hg 3 (by decide) hty) (R_t hkeys hg 3 (by decide) hty) x.1 y.1 (by omega) (by omega)
            have e1 : st.keys.getD x.1 [] = st.keys[x.1]'(by omega) := by simp [List.getD_eq_getElem?_getD, show x.1 < st.keys.length by omega]
            have e2 : st.keys.getD y.1 [] = st.keys[y.1]'(by omega) := by simp [List.getD_eq_getElem?_getD, show y.1 < st.keys.length by omega]
            rw [e1, e2]
            exact h1
          rintro e ws ⟨rfl, ys, hperm, hsorted, hRs, hks⟩
          have hgs := kept_grown hks
          have hbs := Kd.R_base HRo.out
          have HI4 := hid (ginv_lim { toGBase := gbase_typed HI3.toGBase hgs rfl (q := 3) (by decide) hbs hty, rows := rows_t HI3.rows hgs hbs 3 (by decide) hty : GInv w2.heap.size lim3 w2 ws w2.heap.size (w2.heap.size + 1) (.slice A13 st.outs.length c13) st })
          have HRs := hid hRs
          have HPm := hid hperm
          have HSd := hid hsorted
          clear hbox hkeys HRo hty hgs hbs hks hRs HI2 HI3 HR2' hperm hsorted
          obtain ⟨vs, g1, g2, g3, g4, g5⟩ := HI4.out.rows.ex
          have hyl : ys.length = st.outs.length := by have := HPm.out.length_eq; simpa using this
          have HB4 := hid HI4.out.below
          have HG2 := hid g2
          have HG3 := hid g3
          have HG4 := hid g4
          have HG1 := hid g1
          have HYl := hid hyl
          clear g1 g2 g3 g4 g5 hyl HI4
          go_wp2_with fail
          go_loopw [23, 107] (fun v23 i wr2 => ∃ m : Nat, m ≤ st.outs.length ∧ i = .int .i64 m ∧ Hid (Below ws.heap.size ws wr2) ∧ Hid (slK.R 22 wr2 ws.heap.size (fun _ => True) v23 ((ys.take m).map fun y => vs.getD y.1 (none, 0, 0)))) (fun _ i _ => st.outs.length - (intOf i).toNat)
          case atStart => exact ⟨0, Nat.zero_le _, rfl, Below.refl _ _, Kd.R_nil _ _ _ _ _⟩
          case round =>
            obtain ⟨m, hm, rfl, HBw, HRr⟩ := hrel
            have hyl := HYl.out
            have hvl := HG1.out
            by_cases hlt3 : m < st.outs.length
            · obtain ⟨-, -, hC⟩ := Kd.R_reads' HRs.out
              obtain ⟨ad3, e3, x3⟩ := Kd.at_int hC (m : Int) (by omega) (by simp [hyl]; omega)
              subst e3
              obtain ⟨go, rfl⟩ := Kd.R_head HRs.out
              have hym : m < ys.length := by omega
              have hrd : Go.Proofs.YtoncpeadbhgmaaaGreatDoorW.PrintWords.rd (ys.map fun i => (i.1 : Int)) (m : Int) = (ys[m].1 : Int) := by simp [Go.Proofs.YtoncpeadbhgmaaaGreatDoorW.PrintWords.rd, List.getD_eq_getElem?_getD, hym]
              rw [hrd] at x3
              replace x3 := (HBw.out.cell (World.block_lt_of_cell? ws _ x3)).trans x3
              have hyo : ys[m].1 < vs.length := by have := ys[m].2; omega
              obtain ⟨yy, hyy⟩ : ∃ yy, yy = ys[m].1 := ⟨_, rfl⟩
              obtain ⟨-, -, hC2⟩ := Kd.R_reads' HG2.out
              obtain ⟨ad4, _, rfl, -⟩ := Kd.C_get hC2 ((none, 0, 0) : SL) (ys[m].1 : Int) (by omega) (by omega)
              obtain ⟨gb, rfl⟩ := Kd.R_head HG2.out
              obtain ⟨cz, hcl, hcM, hcc, -⟩ := Kd.R_elem HG2.out ((none, 0, 0) : SL) (ys[m].1 : Int) (by omega) (by omega)
              have hcz : cz = [sv (vs.getD (ys[m].1 : Int).toNat (none, 0, 0))] := hcM
              subst hcz
              have x4 : ws.cell? ⟨gb, ys[m].1, none⟩ = some (sv (vs.getD ys[m].1 (none, 0, 0))) := by have := hcc 0 _ rfl; simpa [slK, Kd.scalar, sv] using this
              replace x4 := (HBw.out.cell (World.block_lt_of_cell? ws _ x4)).trans x4
              have htk : (ys.take (m + 1)).map (fun y => vs.getD y.1 (none, 0, 0)) = (ys.take m).map (fun y => vs.getD y.1 (none, 0, 0)) ++ [vs.getD ys[m].1 (none, 0, 0)] := by
                rw [show ys.take (m + 1) = ys.take m ++ [ys[m]] from by rw [List.take_add_one, List.getElem?_eq_getElem hym]; rfl, List.map_append]; rfl
              have HTk := hid htk
              have q0 : (0 ≤ (yy : Int)) = True := eq_true (by omega)
              have q1 : ((yy : Int) < (st.outs.length : Int)) = True := eq_true (by omega)
              
              generalize hgu : vs.getD ys[m].1 (none, 0, 0) = gu at x4 HTk
              obtain ⟨Au, nu, cu⟩ := gu
              have x4' : wr.cell? ⟨gb, yy, none⟩ = some (.slice Au nu cu) := by rw [hyy]; exact x4
              have x3' : wr.cell? ⟨go, m, none⟩ = some (.int .i64 (yy : Int)) := by
                rw [add_at, Nat.zero_add] at x3
                simp only [Int.toNat_natCast] at x3
                rw [hyy]; exact x3
              have HYy := hid hyy
              have HYm := hid hym
              clear x3 x4 hcl hcM hcc hC hC2 hrd hgu htk hyo hyy
              obtain ⟨A23, c23, e23⟩ := Kd.R_slice HRr.out
              go_wp2_with (first
                | ((with_reducible refine gate_builtin (b := .append) (xs := #[.tmp 111, .tmp 116]) rfl ?_); at_builtin
                   refine Hid.out ?_))
              refine hid ?_
              refine Kd.R_append slK (w0 := ws) ws.heap.size rfl (.tmp 111) (.tmp 116) 49 22 (.slice none 0 0) 24 rfl Tryz.underlying49 info22 rfl (by decide) (by omega) _ _ ((Au, nu, cu) : SL) [.slice Au nu cu] (fun _ => True) (fun _ => False) rfl (by first | rfl | (go_simp; done) | (go_simp; rfl)) rfl (fun _ h => h.elim) (fun _ _ => trivial) HRr.out HBw.out HBw.out.size ?aL ?_
              (case aL => simp; have := HFl.out; omega)
              intro v1 w8 hr8 hb8 hg8 hat8
              have HR8 := hid hr8
              have HB8 := hid hb8
              rw [← HTk.out] at hr8
              have HR9 := hid hr8
              clear hr8 hb8 hg8 hat8 HR8
              have HLt := hid hlt3
              have hmx : st.outs.length ≤ 9223372036854775807 := by have := HFl.out; omega
              go_wp2
              go_roundw
              case rel =>
                have := HFl.out
                have := HLt.out
                exact ⟨m + 1, by omega, by go_num, HB8, HR9⟩
              case measure =>
                have := HFl.out
                have := HLt.out
                simp [intOf]; omega
            · obtain rfl : m = st.outs.length := by omega
              have HBf := hid (show Below w.heap.size w wr from (HB1.out.trans (Below.mono HB2.out (HB1.out.size))).trans (Below.mono (HB4.out.trans (Below.mono HBw.out HB4.out.size)) (Nat.le_trans HB1.out.size HB2.out.size)))
              go_wp2
              go_ret2
              refine ⟨_, rfl, w2.heap.size, ys, HPm.out, HSd.out.imp (fun h => by omega), Nat.le_trans HB1.out.size HB2.out.size, ?_, HBf.out⟩
              have hyl' := HYl.out
              have hvl' := HG1.out
              have hRf : slK.R 22 wr w2.heap.size (fun _ => True) u23 (ys.map fun y => vs.getD y.1 (none, 0, 0)) := by
                have h := HRr.out
                rw [List.take_of_length_le (by omega)] at h
                exact Kd.R_lower h HB4.out.size
              refine rows_lim (lim := wr.heap.size) ⟨_, by simp, hRf, fun i u o hu ho => ?_, fun i j ui uj hij hui huj b hb => ?_, fun i u hu b hb => ?_⟩
              · rw [List.getElem?_map] at hu ho
                obtain ⟨y, hy, hu⟩ := Option.map_eq_some_iff.1 hu
                obtain ⟨y', hy', ho⟩ := Option.map_eq_some_iff.1 ho
                obtain rfl : y = y' := by rw [hy] at hy'; exact Option.some.inj hy'
                have hyv : y.1 < vs.length := by have := y.2; omega
                have hu' : vs[y.1]? = some u := by rw [← hu, List.getD_eq_getElem?_getD, List.getElem?_eq_getElem hyv]; rfl
                exact Kd.N_below (HG3.out y.1 u o hu' (by rw [← ho]; exact List.getElem?_eq_getElem y.2)) HBw.out
              · rw [List.getElem?_map] at hui huj
                obtain ⟨y, hy, hui⟩ := Option.map_eq_some_iff.1 hui
                obtain ⟨y', hy', huj⟩ := Option.map_eq_some_iff.1 huj
                have hyv : y.1 < vs.length := by have := y.2; omega
                have hyv' : y'.1 < vs.length := by have := y'.2; omega
                have hu' : vs[y.1]? = some ui := by rw [← hui, List.getD_eq_getElem?_getD, List.getElem?_eq_getElem hyv]; rfl
                have hu2 : vs[y'.1]? = some uj := by rw [← huj, List.getD_eq_getElem?_getD, List.getElem?_eq_getElem hyv']; rfl
                have hnd : ys.Nodup := HPm.out.nodup_iff.2 (List.nodup_finRange _)
                obtain ⟨hi, hyi⟩ := List.getElem?_eq_some_iff.1 hy
                obtain ⟨hj, hyj⟩ := List.getElem?_eq_some_iff.1 hy'
                have hne : y.1 ≠ y'.1 := fun e => hij ((List.getElem_inj hnd).1 (by rw [hyi, hyj]; exact Fin.ext e))
                exact HG4.out y.1 y'.1 ui uj hne hu' hu2 b hb
              · rw [List.getElem?_map] at hu
                obtain ⟨y, hy, hu⟩ := Option.map_eq_some_iff.1 hu
                have hyv : y.1 < vs.length := by have := y.2; omega
                have hu' : vs[y.1]? = some u := by rw [← hu, List.getD_eq_getElem?_getD, List.getElem?_eq_getElem hyv]; rfl
                exact Nat.lt_of_lt_of_le (Kd.N_lt (HG3.out y.1 u _ hu' (List.getElem?_eq_getElem y.2)) b hb) HBw.out.size
end Go.Proofs.YtoncpeadbhgmaaaGreatDoor.G

set_option linter.unusedVariables false
set_option linter.unusedSimpArgs false
namespace Go.Proofs.YtoncpeadbhgmaaaGreatDoor.G
open Go.RowKit Go.Sort Go.Shelf Go.Proofs.YtoncpeadbhgmaaaGreatDoorW.PrintWords Go.Proofs.YtoncpeadbhgmaaaGreatDoorW.PrintLast Go.Proofs.YtoncpeadbhgmaaaGreatDoorW.PrintMore

theorem slK2_KM {w w1 : World} {b : Nat} {ok : Nat → Prop} {u : SL × SL} {c : List Value} (h : slK2.K w u c) : slK2.M w1 b ok u c := by rw [slK2_K h]; exact slK2_M u
theorem slK2_heap : Kd.Heap slK2 := Kd.heap_pair Kd.heap_scalar Kd.heap_scalar
/-- A slice of one point, new. -/
theorem n_one {w : World} {B n : Nat} {p : S41} {cells : List Value} (hl : cells.length = 2) (hone : ∀ u ∈ cells, u.oneCell' = true) (hb : w.heap[n]? = some (.cells cells.toArray 41 (0, 0))) (hB : B ≤ n) (hF : Kd.FK k41 w (fun k => k < B) p cells) :
    Kd.N k41 41 w B (okI B (sv (some ⟨n, 0, none⟩, 1, 1))) (sv (some ⟨n, 0, none⟩, 1, 1)) [p] := by
  have ht : cells.toArray.toList.take (1 * 2) = cells := by rw [List.take_of_length_le (by simp [hl])]
  refine ⟨fun k hk => .inr hk.symm, [cells], rfl, ⟨fun k hk => hk.symm, cells, ⟨(show cells.length = 1 * 2 by omega), .inr ⟨n, 1, cells.toArray, rfl, hB, hb, Nat.le_refl _, by decide, (show cells.toArray.size = 1 * 2 by simpa using hl), ht⟩⟩, ⟨(show cells.length = 1 * 2 by omega), fun j x hx => ?_⟩⟩, fun j x c hx hc => ?_⟩
  · have hj : j = 0 := by have := (List.getElem?_eq_some_iff.1 hx).1; simp at this; omega
    subst hj
    simp at hx
    subst hx
    have h2 : (cells.drop (0 * 2)).take 2 = cells := by simp [List.take_of_length_le, hl]
    exact ⟨h2, by rw [show (cells.drop (0 * (Kd.raw k41.sz).sz)).take (Kd.raw k41.sz).sz = cells from h2]; exact hl, by rw [show (cells.drop (0 * (Kd.raw k41.sz).sz)).take (Kd.raw k41.sz).sz = cells from h2]; exact hone⟩
  · have hj : j = 0 := by have := (List.getElem?_eq_some_iff.1 hx).1; simp at this; omega
    subst hj
    simp at hx hc
    subst hx; subst hc
    exact Kd.FK_mono hF (fun k hk => ⟨.inl hk, fun e => by
      have : k = n := by simpa [sv, Value.ownBlock] using e
      omega⟩)
/-- The parts so far. -/
def PartsDone (B : Nat) (w w' : World) (v : Value) (outs : List Part) : Prop := ∃ vs : List (SL × SL), slK2.R 62 w' B (fun _ => True) v vs ∧ PIn B w'.heap.size w' vs outs ∧ Below B w w'
/-- What the walk asks of its callees: the group of each point; the order of the groups. -/
structure PAsk (k : Nat) (l0 : List S41) (l1 : List ByteArray) (a2 : Bool) (c : List S89 → List S89 → Int) (g : S41 → List S89) : Prop where
  grp : ∀ p ∈ l0, tocsinref16_group.f k p.f0 l1 a2 = some (g p)
  cmp : ∀ p ∈ l0, ∀ q ∈ l0, tocsinref04_Compare.f k (g p) (g q) = some (c (g p) (g q))
  same : ∀ p ∈ l0, ∀ q ∈ l0, tocsinref04_Same.f k (g p) (g q) = some (c (g p) (g q) == 0)
  len : l0.length ≤ 1048576
/-- The states that the loop goes through. -/
structure PSteps (l0 : List S41) (c : List S89 → List S89 → Int) (g : S41 → List S89) (st : Nat → List Part) : Prop where
  zero : st 0 = []
  mem : ∀ j, j ≤ l0.length → ∀ o ∈ st j, ∃ p ∈ l0, o.1 = g p
  len : ∀ j, j ≤ l0.length → (st j).length ≤ j ∧ ∀ o ∈ st j, o.2.length ≤ j
  lead : ∀ j (h : j < l0.length), ∃ K, K ≤ (st j).length ∧ (∀ i o, i < K → (st j)[i]? = some o → c o.1 (g l0[j]) < 0) ∧
    ((∃ o, (st j)[K]? = some o ∧ c o.1 (g l0[j]) = 0 ∧ st (j + 1) = (st j).set K (o.1, o.2 ++ [l0[j]])) ∨
     ((∀ o, (st j)[K]? = some o → 0 < c o.1 (g l0[j])) ∧ st (j + 1) = (st j).take K ++ [(g l0[j], [l0[j]])] ++ (st j).drop K))
set_option maxHeartbeats 4000000 in
set_option maxRecDepth 1000000 in
theorem parts_walk (k : Nat) (A0 : Option Addr) (c0 : Nat) (l0 : List S41) (A1 : Option Addr) (c1 : Nat) (l1 : List ByteArray) (a2 : Bool) (c : List S89 → List S89 → Int) (g : S41 → List S89) (st : Nat → List Part) (w : World)
    (hr0 : Kd.C k41 w A0 l0.length l0) (hc0 : l0.length ≤ c0) (hr1 : Kd.C Kd.string w A1 l1.length l1) (hc1 : l1.length ≤ c1) (hA : PAsk k l0 l1 a2 c g) (hS : PSteps l0 c g st) :
    Calls Tryz.prog 97 #[.slice A0 l0.length c0, .slice A1 l1.length c1, .bool a2] w fun e w' => ∃ v : Value, e = .returned v ∧ PartsDone w.heap.size w w' v (st l0.length) := by
  have HR0 := hid hr0
  have HR1 := hid hr1
  have HC1 := hid hc1
  have HA := hid hA
  have HS := hid hS
  have hmax := Kd.C_max hr0
  clear hr0 hc0 hr1 hc1 hA hS
  go_enter Tryz.func97, Tryz.ntmps97
  go_wp2_with fail
  go_loopw [7, 15] (fun v7 i wr => ∃ (j : Nat), j ≤ l0.length ∧ i = .int .i64 j ∧ Hid (PartsDone w.heap.size w wr v7 (st j))) (fun _ i _ => l0.length - (intOf i).toNat)
  case atStart => exact ⟨0, Nat.zero_le _, rfl, [], Kd.R_nil _ _ _ _ _, by rw [HS.out.zero]; exact pin_nil _ _ _, Below.refl _ _⟩
  case round =>
    obtain ⟨j, hj, rfl, HP⟩ := hrel
    by_cases hlt : j < l0.length
    · obtain ⟨vs, hR, hI, hB⟩ := HP.out
      obtain ⟨K, hK, hlow, hend⟩ := HS.out.lead j hlt
      have hrd : rd_T41 l0 j = l0[j] := by simp [rd_T41, List.getD_eq_getElem?_getD, hlt]
      have hpm : l0[j] ∈ l0 := List.getElem_mem _
      obtain ⟨ad, Ap, cp, e, x0, x1, hlp, hcp⟩ := at_T41 HR0.out j (by omega) (by omega)
      cases e
      rw [hrd] at x0 x1 hlp hcp
      generalize hp : l0[j] = p at *
      replace x0 := (hB.cell (World.block_lt_of_cell? w _ x0)).trans x0
      replace x1 := (hB.cell (World.block_lt_of_cell? w _ x1)).trans x1
      simp only [Int.toNat_natCast] at x0 x1
      have HFp := hid (k41_mkF w (fun k => k < w.heap.size) p hlp (Kd.C_F k89_heap hcp))
      have HLp := hid hlp
      have HCp := hid (Kd.C_below hcp hB)
      have HIn := hid hI
      have HRv := hid hR
      have HBw := hid hB
      have HG := hid (HA.out.grp p hpm)
      have HK := hid hK
      have HLow := hid hlow
      have HEnd := hid hend
      have HPm := hid hpm
      have HLt := hid hlt
      have hs0 : w.heap.size ≤ wr.heap.size := hB.size
      clear hR hI hB hK hlow hend hrd hlp hcp HP hpm hp
      have hp4 := heap_alloc_new wr (Obj.cells #[Value.slice Ap p.f0.length cp, Value.float FloatKind.f64 p.f1] 41)
      have HP4 := hid hp4
      have HC4 := hid (Kd.C_alloc HCp.out (Obj.cells #[Value.slice Ap p.f0.length cp, Value.float FloatKind.f64 p.f1] 41))
      have HR4 := hid (Kd.C_alloc (Kd.C_below HR1.out HBw.out) (Obj.cells #[Value.slice Ap p.f0.length cp, Value.float FloatKind.f64 p.f1] 41))
      have HB4 := hid (below_alloc (Below.refl wr.heap.size wr) (Obj.cells #[Value.slice Ap p.f0.length cp, Value.float FloatKind.f64 p.f1] 41))
      clear hp4
      go_wp2_with fail
      generalize (wr.alloc (Obj.cells #[Value.slice Ap p.f0.length cp, Value.float FloatKind.f64 p.f1] 41)) = w4 at HP4 HC4 HR4 HB4 ⊢
      refine (tocsinref16_group.calls k Ap cp _ A1 c1 l1 a2 (g p) w4 HC4.out HLp.out HR4.out HC1.out HG.out).mono ?_
      rintro e w5 ⟨vg, rfl, hog, hb5⟩
      obtain ⟨Ag, cg, rfl, hlg, hrg⟩ := Kd.R_reads hog
      have HLg := hid hlg
      have HCg := hid hrg
      have HB5 := hid (show Below wr.heap.size wr w5 from HB4.out.trans (hb5.mono HB4.out.size))
      have HP5 := hid ((hb5.block _ (Array.getElem?_eq_some_iff.1 HP4.out).1).trans HP4.out)
      have HNg := hid (Kd.N_mono (Kd.R_N (Kd.R_tight rfl (Kd.R_lower hog (Nat.le_trans HBw.out.size HB4.out.size)))) (ok' := okI w.heap.size (.slice Ag (g p).length cg)) (fun k hk => .inr hk))
      have HIn5 := hid (pin_below HIn.out HB5.out)
      have HRv5 := hid (Kd.R_below HRv.out HB5.out)
      obtain ⟨Ao, co, rfl, hom, hoc, hpa⟩ := part_at HRv5.out HIn5.out
      have HPa := hid hpa
      clear hog hb5 hlg hrg hpa HP4 HC4 HR4 HB4
      have hKl : K ≤ (st j).length := HK.out
      go_wp2_with fail
      go_loopw [11] (fun i w2 => ∃ kk : Nat, kk ≤ K ∧ i = .int .i64 kk ∧ Hid (Drawn0 w5 w2)) (fun i _ => K - (intOf i).toNat)
      case atStart => exact ⟨0, Nat.zero_le _, rfl, Drawn0.refl _⟩
      case round =>
        obtain ⟨kk, hkk, rfl, HD⟩ := hrel
        obtain ⟨nd, rfl⟩ := HD.out.out
        by_cases hlt2 : kk < K
        · have hlo : kk < (st j).length := by omega
          obtain ⟨gb, Al, cl, Aq, cq, rfl, hvk, y0, y1, yf, hll, hlq, hcl, hcq⟩ := HPa.out kk hlo
          have HLl := hid hll
          have HCl := hid (Kd.C_drewN hcl nd)
          have hneg := HLow.out kk _ hlt2 (List.getElem?_eq_getElem hlo)
          obtain ⟨q, hq, hqe⟩ := HS.out.mem j (by omega) (st j)[kk] (List.getElem_mem _)
          have hcm := HA.out.cmp q hq p HPm.out
          rw [← hqe] at hcm
          have HCm := hid hcm
          have HLt2 := hid hlt2
          clear hvk y1 yf hll hlq hcl hcq hq hqe hcm
          generalize (st j)[kk] = o at *
          have hnb : (c o.1 (g p) < 0) = True := eq_true hneg
          have y0' : (w5.drewN nd).cell? ⟨gb, kk * 2, none⟩ = some (.slice Al o.1.length cl) := y0
          go_wp2_with fail
          refine (tocsinref04_Compare.calls k Al cl o.1 Ag cg (g p) _ _ HCl.out HLl.out (Kd.C_drewN HCg.out nd) HLg.out HCm.out).mono ?_
          rintro e w6 ⟨rfl, hd6⟩
          obtain ⟨nd6, rfl⟩ := hd6.out
          have HD6 := hid (show Drawn0 w5 (w5.drewN (nd + nd6)) from ⟨⟨_, rfl⟩⟩)
          clear hd6
          go_wp2_with fail
          go_roundw
          case rel => exact ⟨kk + 1, by have := HLt2.out; omega, by go_num, HD6⟩
          case measure => have := HLt2.out; simp [intOf]; omega
        · obtain rfl : kk = K := by omega
          clear hlt2 hkk
          rcases HEnd.out with ⟨o, ho, h0, hst⟩ | ⟨hpos, hst⟩
          · have hlo : kk < (st j).length := (List.getElem?_eq_some_iff.1 ho).1
            obtain ⟨gb, Al, cl, Aq, cq, rfl, hvk, y0, y1, yf, hll, hlq, hcl, hcq⟩ := HPa.out kk hlo
            obtain ⟨q, hq, hqe⟩ := HS.out.mem j (by omega) (st j)[kk] (List.getElem_mem _)
            have hoe : (st j)[kk] = o := (List.getElem?_eq_some_iff.1 ho).2
            have hcm := HA.out.cmp q hq p HPm.out
            have hsm := HA.out.same q hq p HPm.out
            rw [← hqe] at hcm hsm
            rw [hoe] at hvk y0 y1 hll hlq hcl hcq hcm hsm
            rw [h0] at hcm hsm
            have HLl := hid hll
            have HCl := hid hcl
            have HCm := hid hcm
            have HSm := hid hsm
            have HVk := hid hvk
            have HLq := hid hlq
            have HCq := hid hcq
            have HY1 := hid y1
            have HYf := hid yf
            have HO := hid ho
            have HSt := hid hst
            clear hll hcl hcm hsm hvk hlq hcq y1 yf hq hqe hoe ho hst h0
            have y0' : (w5.drewN nd).cell? ⟨gb, kk * 2, none⟩ = some (.slice Al o.1.length cl) := y0
            go_wp2_with fail
            refine (tocsinref04_Compare.calls k Al cl o.1 Ag cg (g p) _ _ (Kd.C_drewN HCl.out nd) HLl.out (Kd.C_drewN HCg.out nd) HLg.out HCm.out).mono ?_
            rintro e w6 ⟨rfl, hd6⟩
            have HD6 := hid (show Drawn0 w5 w6 from by obtain ⟨a, rfl⟩ := hd6.out; exact Drawn0.step HD.out a)
            clear hd6 HD y0'
            obtain ⟨nd6, hw6⟩ := HD6.out.out
            subst hw6
            have y0' : (w5.drewN nd6).cell? ⟨gb, kk * 2, none⟩ = some (.slice Al o.1.length cl) := y0
            go_wp2_with fail
            refine (tocsinref04_Same.calls k Al cl o.1 Ag cg (g p) _ _ (Kd.C_drewN HCl.out nd6) HLl.out (Kd.C_drewN HCg.out nd6) HLg.out HSm.out).mono ?_
            rintro e w7 ⟨rfl, hd7⟩
            have HD7 := hid (show Drawn0 w5 w7 from by obtain ⟨a, rfl⟩ := hd7.out; exact Drawn0.step HD6.out a)
            clear hd7 HD6 y0'
            go_wp2_with fail
            obtain ⟨nd7, hw7⟩ := HD7.out.out
            have hB7 : Below w5.heap.size w5 w7.drew := below_drew (HD7.out.below)
            have z1 : w7.drew.cell? ⟨gb, kk * 2 + 1, none⟩ = some (.slice Aq o.2.length cq) := by rw [hw7]; exact HY1.out
            have zf : w7.drew.frozen? ⟨gb, kk * 2 + 1, none⟩ = false := by rw [hw7]; exact HYf.out
            have hPd : w7.drew.heap[wr.heap.size]? = some (Obj.cells #[Value.slice Ap p.f0.length cp, Value.float FloatKind.f64 p.f1] 41) := by rw [hw7]; exact HP5.out
            have z2 : w7.drew.cell? ⟨wr.heap.size, 0, none⟩ = some (Value.slice Ap p.f0.length cp) := (blk_cell hPd 0).trans rfl
            have z3 : w7.drew.cell? ⟨wr.heap.size, 1, none⟩ = some (Value.float FloatKind.f64 p.f1) := (blk_cell hPd 1).trans rfl
            have hI7 := pin_below HIn5.out hB7
            have hR7 := Kd.R_below HRv5.out hB7
            have hBw7 : Below w.heap.size w w7.drew := HBw.out.trans ((HB5.out.trans (hB7.mono HB5.out.size)).mono HBw.out.size)
            have hF7 : Kd.FK k41 w7.drew (fun k => k < w.heap.size) p [Value.slice Ap p.f0.length cp, Value.float FloatKind.f64 p.f1] := Kd.FK_step HFp.out (fun k hk _ => hBw7.block k hk)
            refine start_ (n := 13) (S := fun w' => w'.cell? ⟨gb, kk * 2 + 1, none⟩ = some (.slice Aq o.2.length cq) ∧ w'.cell? ⟨wr.heap.size, 0, none⟩ = some (Value.slice Ap p.f0.length cp) ∧ w'.cell? ⟨wr.heap.size, 1, none⟩ = some (Value.float FloatKind.f64 p.f1)) (ds := [12]) #[false, false, false, false, false, false, false, false, false, false, false, false, false] (by kernel_rfl) rfl rfl ⟨z1, z2, z3⟩ (fun hHeld => ?_)
            clear hw7 hB7 y0
            generalize w7.drew = w8 at z1 zf hPd z2 z3 hI7 hR7 hBw7 hF7 hHeld ⊢
            have HI7 := hid hI7
            have HR7 := hid hR7
            have HBw7 := hid hBw7
            have HF7 := hid hF7
            have HZf := hid zf
            have HPd := hid hPd
            clear hI7 hR7 hBw7 hF7 zf hPd
            refine pure_ (i := 0) (N := some 53) (v := ?_) (a' := ?_) #[true, false, false, false, false, false, false, false, false, false, false, false, false] rfl rfl (by kernel_rfl) (fun _ _ _ h => h) (Or.inl ⟨by rfl, ?_⟩) ?_ ?_
            rotate_left
            · intro w'
              go_simp
              with_reducible rfl
            rotate_left
            · simp only [Act.put, List.setIfInBounds_toArray, List.set_cons_zero, List.set_cons_succ, i64_w, i32_w]
              rfl
            refine pure_ (i := 1) (N := some 54) (v := ?_) (a' := ?_) #[true, true, false, false, false, false, false, false, false, false, false, false, false] rfl rfl (by kernel_rfl) (fun _ _ _ h => h) (Or.inl ⟨by rfl, ?_⟩) ?_ ?_
            rotate_left
            · intro w'
              go_simp
              with_reducible rfl
            rotate_left
            · simp only [Act.put, List.setIfInBounds_toArray, List.set_cons_zero, List.set_cons_succ, i64_w, i32_w]
              rfl
            refine pure_ (i := 2) (N := some 55) (v := ?_) (a' := ?_) #[true, true, true, false, false, false, false, false, false, false, false, false, false] rfl rfl (by kernel_rfl) (fun _ _ _ h => h) (Or.inl ⟨by rfl, ?_⟩) ?_ ?_
            rotate_left
            · intro w'
              go_simp
              with_reducible rfl
            rotate_left
            · simp only [Act.put, List.setIfInBounds_toArray, List.set_cons_zero, List.set_cons_succ, i64_w, i32_w]
              rfl
            refine pure_ (i := 3) (N := some 56) (v := ?_) (a' := ?_) #[true, true, true, true, false, false, false, false, false, false, false, false, false] rfl rfl (by kernel_rfl) (fun _ _ _ h => h) (Or.inl ⟨by rfl, ?_⟩) ?_ ?_
            rotate_left
            · intro w'
              go_simp
              with_reducible rfl
            rotate_left
            · simp only [Act.put, List.setIfInBounds_toArray, List.set_cons_zero, List.set_cons_succ, i64_w, i32_w]
              rfl
            refine pure_ (i := 4) (N := some 57) (v := ?_) (a' := ?_) #[true, true, true, true, true, false, false, false, false, false, false, false, false] rfl rfl (by kernel_rfl) (fun _ _ _ h => h) (Or.inl ⟨by rfl, ?_⟩) ?_ ?_
            rotate_left
            · intro w'
              go_simp
              with_reducible rfl
            rotate_left
            · simp only [Act.put, List.setIfInBounds_toArray, List.set_cons_zero, List.set_cons_succ, i64_w, i32_w]
              rfl
            refine pure_ (i := 5) (N := some 58) (v := ?_) (a' := ?_) #[true, true, true, true, true, true, false, false, false, false, false, false, false] rfl rfl (by kernel_rfl) (fun _ _ _ h => h) (Or.inl ⟨by rfl, ?_⟩) ?_ ?_
            rotate_left
            · intro w'
              go_simp
              with_reducible rfl
            rotate_left
            · simp only [Act.put, List.setIfInBounds_toArray, List.set_cons_zero, List.set_cons_succ, i64_w, i32_w]
              rfl
            refine take_ (i := 6) (N := some 59) (v := ?_) (a' := ?_) #[true, true, true, true, true, true, true, false, false, false, false, false, false] rfl rfl (by kernel_rfl) (fun _ _ _ h => h) (Or.inl ⟨by rfl, ?_⟩) hHeld ?_ ?_
            rotate_left
            · rintro w' ⟨s0, s1, s2⟩
              go_simp
              with_reducible rfl
            rotate_left
            · simp only [Act.put, List.setIfInBounds_toArray, List.set_cons_zero, List.set_cons_succ, i64_w, i32_w]
              rfl
            refine take_ (i := 7) (N := some 60) (v := ?_) (a' := ?_) #[true, true, true, true, true, true, true, true, false, false, false, false, false] rfl rfl (by kernel_rfl) (fun _ _ _ h => h) (Or.inl ⟨by rfl, ?_⟩) hHeld ?_ ?_
            rotate_left
            · rintro w' ⟨s0, s1, s2⟩
              go_simp
              with_reducible rfl
            rotate_left
            · simp only [Act.put, List.setIfInBounds_toArray, List.set_cons_zero, List.set_cons_succ, i64_w, i32_w]
              rfl
            obtain ⟨rows, hrl, hrR, hrf⟩ := inner_open (HI7.out.pts kk _ o HVk.out HO.out)
            have hol : o.2.length ≤ j := (HS.out.len j (by omega)).2 o (List.mem_of_getElem? HO.out)
            have hlA := HA.out.len
            have hrn : rows.length < 1048577 := by have := HLt.out; omega
            have hne1 : some gb ≠ (sv (Aq, o.2.length, cq)).ownBlock := by
              obtain ⟨cc, hcc⟩ := Kd.R_typed HR7.out gb (by simp [Value.ownBlock])
              exact Kd.R_ne hrR hcc (by decide)
            have hne2 : some wr.heap.size ≠ (sv (Aq, o.2.length, cq)).ownBlock := fun he => by have := HI7.out.lim kk _ HVk.out _ he.symm; omega
            have HrR := hid hrR
            have Hrf := hid hrf
            have Hrl := hid hrl
            clear hrR hrf hrl hol hlA
            refine one_ (i := 8) (N := some 61) #[true, true, true, true, true, true, true, true, true, false, false, false, false] rfl rfl (by kernel_rfl) (by decide) (fun K hK => ?_)
            refine value_ (w1 := ?_) (v := ?_) (by rfl) rfl ?_ ?_
            rotate_left 2
            · go_simp
              constructor
              · rfl
              · rfl
            refine hK.out _ _ ⟨(World.cell?_alloc_lt _ _ _ (World.block_lt_of_cell? _ _ z1)).trans z1, (World.cell?_alloc_lt _ _ _ (World.block_lt_of_cell? _ _ z2)).trans z2, (World.cell?_alloc_lt _ _ _ (World.block_lt_of_cell? _ _ z3)).trans z3⟩ (fun hHeld => ?_)
            clear hK K
            refine norm_ (a' := ?_) ?_ ?_
            rotate_left
            · show Act.put _ (some 61) _ = _
              simp only [Act.put, List.setIfInBounds_toArray, List.set_cons_zero, List.set_cons_succ, i64_w, i32_w]
              rfl
            refine one_ (i := 9) (N := some 62) #[true, true, true, true, true, true, true, true, true, true, false, false, false] rfl rfl (by kernel_rfl) (by decide) (fun K hK => ?_)
            refine Kd.R_append_step (Kd.raw 2) (w0 := w) w.heap.size (by rfl) (.tmp 59) (.tmp 61) 22 41 (.agg #[(.slice none 0 0), (.float .f64 0)]) 32 rfl Tryz.underlying22 info41 rfl (by decide) (by omega) (sv (Aq, o.2.length, cq)) rows [Value.slice Ap p.f0.length cp, Value.float FloatKind.f64 p.f1] [Value.slice Ap p.f0.length cp, Value.float FloatKind.f64 p.f1] (fun _ => True) (fun _ => False) rfl rfl ⟨rfl, rfl, by simp [Value.oneCell']⟩ (fun _ h => h.elim) (fun _ _ => trivial) ?aO HBw7.out HBw7.out.size ?aL ?_
            (case aO => exact HrR.out)
            (case aL => omega)
            intro v1 w9 hR9 hb9 hg9 hat9
            obtain ⟨⟨Au, nu, cu⟩, hv1, hN9⟩ := inner_more Hrl.out HrR.out Hrf.out HF7.out hg9 hR9
            have hv1' : v1 = .slice Au nu cu := hv1
            clear hv1
            subst hv1'
            have z1' := hg9.cell z1 hne1
            have z2' := hg9.cell z2 hne2
            have z3' := hg9.cell z3 hne2
            have zf' : w9.frozen? ⟨gb, kk * 2 + 1, none⟩ = false := (hg9.frozen_far ⟨gb, kk * 2 + 1, none⟩ (World.block_lt_of_cell? _ _ z1) hne1).trans HZf.out
            have HN9 := hid hN9
            have Hg9 := hid hg9
            have Hat9 := hid hat9
            have HB9 := hid hb9
            clear hN9 hg9 hat9 hb9 hR9
            refine hK.out _ _ ⟨z1', z2', z3'⟩ (fun hHeld => ?_)
            clear hK K
            refine norm_ (a' := ?_) ?_ ?_
            rotate_left
            · show Act.put _ (some 62) _ = _
              simp only [Act.put, List.setIfInBounds_toArray, List.set_cons_zero, List.set_cons_succ, i64_w, i32_w]
              rfl
            refine pure_ (i := 10) (N := some 63) (v := ?_) (a' := ?_) #[true, true, true, true, true, true, true, true, true, true, true, false, false] rfl rfl (by kernel_rfl) (fun _ _ _ h => h) (Or.inl ⟨by rfl, ?_⟩) ?_ ?_
            rotate_left
            · intro w'
              go_simp
              with_reducible rfl
            rotate_left
            · simp only [Act.put, List.setIfInBounds_toArray, List.set_cons_zero, List.set_cons_succ, i64_w, i32_w]
              rfl
            refine pure_ (i := 11) (N := some 64) (v := ?_) (a' := ?_) #[true, true, true, true, true, true, true, true, true, true, true, true, false] rfl rfl (by kernel_rfl) (fun _ _ _ h => h) (Or.inl ⟨by rfl, ?_⟩) ?_ ?_
            rotate_left
            · intro w'
              go_simp
              with_reducible rfl
            rotate_left
            · simp only [Act.put, List.setIfInBounds_toArray, List.set_cons_zero, List.set_cons_succ, i64_w, i32_w]
              rfl
            refine last_ (i := 12) (N := none) #[true, true, true, true, true, true, true, true, true, true, true, true, true] rfl rfl (by kernel_rfl) (by decide) (fun K hK => ?_)
            refine skip_ (w1 := ?_) (by rfl) rfl ?_ ?_
            rotate_left
            · go_simp
              rfl
            have hR9 := R_t HR7.out Hg9.out 41 (by decide) (Kd.N_typed (HI7.out.pts kk _ o HVk.out HO.out))
            obtain ⟨hR10, hg10⟩ := slK2_put hR9 kk _ HVk.out (Au, nu, cu)
            have hI9 := pin_put (u' := (Au, nu, cu)) HI7.out HVk.out HO.out Hg9.out Hat9.out HN9.out
            have hBg := Kd.R_base HR7.out gb (by simp [Value.ownBlock])
            have hTg : ∃ c, w9.heap[gb]? = some (.cells c 62 (0, 0)) := by
              obtain ⟨c, hc⟩ := Kd.R_typed HR7.out gb (by simp [Value.ownBlock])
              exact ⟨c, (Hg9.out.block gb (Array.getElem?_eq_some_iff.1 hc).1 hne1).trans hc⟩
            have hI10 := pin_t hI9 hg10 (fun k hk => by injection hk with hk; subst hk; exact hBg) 62 (by decide) (fun k hk => by injection hk with hk; subst hk; exact hTg)
            have hB10 := HB9.out.trans (grown_below hg10 (fun k hk => by injection hk with hk; subst hk; exact hBg) HB9.out.size)
            rw [← HSt.out] at hI10
            have HFin := hid (show PartsDone w.heap.size w (w9.setCell ⟨gb, kk * 2 + 1, none⟩ (sv (Au, nu, cu))) (.slice (some ⟨gb, 0, none⟩) (st j).length co) (st (j + 1)) from ⟨_, hR10, pin_lim hI10, hB10⟩)
            refine hK.out _ _ ?_
            clear hK K hR9 hR10 hg10 hI9 hI10 hB10 hTg hBg
            refine done_ (by kernel_rfl) ?_
            go_wp2_with fail
            go_roundw
            case rel => exact ⟨j + 1, by have := HLt.out; omega, by go_num, HFin⟩
            case measure => have := HLt.out; simp [intOf]; omega
          · have HPos := hid hpos
            have HSt := hid hst
            clear hpos hst
            by_cases hlo : kk < (st j).length
            · obtain ⟨gb, Al, cl, Aq, cq, rfl, hvk, y0, y1, yf, hll, hlq, hcl, hcq⟩ := HPa.out kk hlo
              obtain ⟨q, hq, hqe⟩ := HS.out.mem j (by omega) (st j)[kk] (List.getElem_mem _)
              have hp0 := HPos.out _ (List.getElem?_eq_getElem hlo)
              have hcm := HA.out.cmp q hq p HPm.out
              have hsm := HA.out.same q hq p HPm.out
              rw [← hqe] at hcm hsm
              generalize (st j)[kk] = o at *
              have hs0' : (c o.1 (g p) == 0) = false := by
                have : c o.1 (g p) ≠ 0 := by omega
                simpa using this
              rw [hs0'] at hsm
              have hnl : decide (c o.1 (g p) < 0) = false := decide_eq_false (by omega)
              have hnl2 : (0 ≤ c o.1 (g p)) = True := eq_true (by omega)
              have HLl := hid hll
              have HCl := hid hcl
              have HCm := hid hcm
              have HSm := hid hsm
              clear hll hcl hcm hsm hvk hlq hcq y1 yf hq hqe hs0' hp0
              have y0' : (w5.drewN nd).cell? ⟨gb, kk * 2, none⟩ = some (.slice Al o.1.length cl) := y0
              go_wp2_with fail
              refine (tocsinref04_Compare.calls k Al cl o.1 Ag cg (g p) _ _ (Kd.C_drewN HCl.out nd) HLl.out (Kd.C_drewN HCg.out nd) HLg.out HCm.out).mono ?_
              rintro e w6 ⟨rfl, hd6⟩
              have HD6 := hid (show Drawn0 w5 w6 from by obtain ⟨a, rfl⟩ := hd6.out; exact Drawn0.step HD.out a)
              clear hd6 HD y0'
              obtain ⟨nd6, hw6⟩ := HD6.out.out
              subst hw6
              have y0' : (w5.drewN nd6).cell? ⟨gb, kk * 2, none⟩ = some (.slice Al o.1.length cl) := y0
              go_wp2_with fail
              refine (tocsinref04_Same.calls k Al cl o.1 Ag cg (g p) _ _ (Kd.C_drewN HCl.out nd6) HLl.out (Kd.C_drewN HCg.out nd6) HLg.out HSm.out).mono ?_
              rintro e w7 ⟨rfl, hd7⟩
              have HD7 := hid (show Drawn0 w5 w7 from by obtain ⟨a, rfl⟩ := hd7.out; exact Drawn0.step HD6.out a)
              clear hd7 HD6 y0'
              have HB7 := hid (show Below w5.heap.size w5 w7 from HD7.out.below)
              have HP7 := hid ((HB7.out.block _ (Array.getElem?_eq_some_iff.1 HP5.out).1).trans HP5.out)
              have HI7 := hid (pin_below HIn5.out HB7.out)
              have HR7 := hid (Kd.R_below HRv5.out HB7.out)
              have HBw7 := hid (show Below w.heap.size w w7 from HBw.out.trans ((HB5.out.trans (HB7.out.mono HB5.out.size)).mono HBw.out.size))
              have HNg7 := hid (n_kept HNg.out (grown_none HB7.out) (fun k e => by cases e) (fun k e => by cases e))
              have hvl : vs.length = (st j).length := HI7.out.len
              obtain ⟨-, -, hC7⟩ := Kd.R_reads' HR7.out
              have HFv7 := hid (Kd.C_F slK2_heap hC7)
              have hCt := Kd.C_take hC7 (m := kk) (by omega)
              have htl : (vs.take kk).length = kk := by rw [List.length_take]; omega
              rw [htl] at hCt
              have HCt := hid hCt
              have HVl := hid hvl
              have hlA := HA.out.len
              have HLA := hid (show (st j).length ≤ 1048576 from by have := (HS.out.len j (by omega)).1; omega)
              obtain ⟨i62, hi62, _, hsz62, _⟩ := info_parts info62
              have hcut := cut_to (P := Tryz.prog) 58 62 .i64 Tryz.underlying58 hi62 (some ⟨gb, 0, none⟩) (st j).length co (kk : Int) (by omega) (by omega) hoc
              simp only [Int.toNat_natCast] at hcut
              have HKk := hid (show kk ≤ (st j).length from by omega)
              clear hC7 hCt htl hvl hlA HD7 HR7
              go_wp2_with (first
                | ((with_reducible refine gate_builtin (b := .append) (xs := #[.tmp 65, .tmp 68]) rfl ?_); at_builtin
                   refine Kd.R_append_rows slK2 (Rr := slK2.K w7) (w0 := w) w.heap.size rfl (.tmp 65) (.tmp 68) 58 62 (.agg #[(.slice none 0 0), (.slice none 0 0)]) 48 rfl Tryz.underlying58 info62 rfl (by decide) (by omega) (.slice none 0 0) ([] : List (SL × SL)) (vs.take kk) _ kk _ (fun _ => True) (fun _ => False) rfl rfl (Kd.R_nil _ _ _ _ _) HCt.out (fun _ _ h => slK2_KM h) (fun _ h => h.elim) (fun _ _ => trivial) HBw7.out HBw7.out.size ?aL ?_
                   (case aL => have := HLA.out; have := HKk.out; simp; omega)
                   intro v8 w8 hr8 hb8 hg8 hat8
                   refine Hid.out ?_))
              refine hid ?_
              have hgn : w7.grownBy w8 none := hg8
              have HI8 := hid (pin_kept HI7.out hgn (fun k e => by cases e) (fun k q c e => by cases e))
              have HP8 := hid ((hgn.block _ (Array.getElem?_eq_some_iff.1 HP7.out).1 (by simp)).trans HP7.out)
              have HNg8 := hid (n_kept HNg7.out hgn (fun k e => by cases e) (fun k e => by cases e))
              have HFv8 := hid (Kd.F_grown HFv7.out hgn (fun k _ => by simp))
              have HAt8 := hid hat8
              rw [List.nil_append] at hr8
              obtain ⟨A8, c8, rfl⟩ := Kd.R_slice hr8
              have HR8 := hid hr8
              have HB8 := hid hb8
              have HG8 := hid hgn.size
              clear hr8 hb8 hg8 hat8 hgn hcut HCt HI7 HP7 HNg7
              have b0 : w8.cell? ⟨wr.heap.size, 0, none⟩ = some (Value.slice Ap p.f0.length cp) := (blk_cell HP8.out 0).trans rfl
              have b1 : w8.cell? ⟨wr.heap.size, 1, none⟩ = some (Value.float FloatKind.f64 p.f1) := (blk_cell HP8.out 1).trans rfl
              have HBa := hid (below_alloc HB8.out (Obj.cells #[Value.slice Ap p.f0.length cp, Value.float FloatKind.f64 p.f1] 41))
              have HRa := hid (Kd.R_alloc HR8.out (Obj.cells #[Value.slice Ap p.f0.length cp, Value.float FloatKind.f64 p.f1] 41))
              have hpa8 := heap_alloc_new w8 (Obj.cells #[Value.slice Ap p.f0.length cp, Value.float FloatKind.f64 p.f1] 41)
              have hFa : Kd.FK k41 (w8.alloc (Obj.cells #[Value.slice Ap p.f0.length cp, Value.float FloatKind.f64 p.f1] 41)) (fun k => k < w.heap.size) p [Value.slice Ap p.f0.length cp, Value.float FloatKind.f64 p.f1] := Kd.FK_step HFp.out (fun k hk _ => HBa.out.block k hk)
              have HB8s := hid (show w.heap.size ≤ w8.heap.size from HB8.out.size)
              have HNp := hid (n_one (cells := [Value.slice Ap p.f0.length cp, Value.float FloatKind.f64 p.f1]) rfl (by simp [Value.oneCell']) hpa8 HB8s.out hFa)
              have hba : Below w8.heap.size w8 (w8.alloc (Obj.cells #[Value.slice Ap p.f0.length cp, Value.float FloatKind.f64 p.f1] 41)) := below_alloc (Below.refl _ _) _
              have HIa := hid (pin_ins (pin_below HI8.out hba) kk (by have := HVl.out; have := HKk.out; omega) ((Ag, (g p).length, cg), (some ⟨w8.heap.size, 0, none⟩, 1, 1)) (g p, [p]) (n_kept HNg8.out (grown_none hba) (fun k e => by cases e) (fun k e => by cases e)) HNp.out (fun b hb => by
                have : w8.heap.size = b := by simpa [sv, Value.ownBlock] using hb
                have h1 := HG8.out
                have h2 := HB7.out.size
                have h3 := HB5.out.size
                omega))
              have HFva := hid (Kd.F_alloc HFv8.out (Obj.cells #[Value.slice Ap p.f0.length cp, Value.float FloatKind.f64 p.f1] 41))
              have HPa8 := hid ((hba.block _ (Array.getElem?_eq_some_iff.1 HP8.out).1).trans HP8.out)
              clear hpa8 hFa hba
              go_wp2_with (first
                | ((with_reducible refine gate_builtin (b := .append) (xs := #[.tmp 70, .tmp 75]) rfl ?_); at_builtin
                   refine Kd.R_append slK2 (w0 := w) w.heap.size rfl (.tmp 70) (.tmp 75) 58 62 (.agg #[(.slice none 0 0), (.slice none 0 0)]) 48 rfl Tryz.underlying58 info62 rfl (by decide) (by omega) (.slice A8 (vs.take kk).length c8) (vs.take kk) ((Ag, (g p).length, cg), (some ⟨w8.heap.size, 0, none⟩, 1, 1)) [Value.slice Ag (g p).length cg, Value.slice (some ⟨w8.heap.size, 0, none⟩) 1 1] (fun _ => True) (fun _ => False) rfl (by first | rfl | (go_simp; done) | (go_simp; rfl)) (slK2_M _) (fun _ h => h.elim) (fun _ _ => trivial) HRa.out HBa.out HBa.out.size ?aL ?_
                   (case aL => have := HLA.out; have := HKk.out; simp; omega)
                   intro v9 w9 hr9 hb9 hg9 hat9
                   refine Hid.out ?_))
              refine hid ?_
              have hT9 := Kd.R_typed HRa.out
              have hBs9 := Kd.R_base HRa.out
              have HI9 := hid (pin_t HIa.out hg9 hBs9 62 (by decide) hT9)
              have HF9 := hid (Kd.F_grown HFva.out hg9 (fun k hk he => by
                rcases HAt8.out with h | ⟨b, h, hle⟩
                · rw [h] at he; simp [Value.ownBlock] at he
                · rw [h] at he; injection he with he; omega))
              generalize hys : vs.take kk ++ [((Ag, (g p).length, cg), (some ⟨w8.heap.size, 0, none⟩, 1, 1))] = ys at hr9
              have HYs := hid hys
              clear hys
              obtain ⟨A9, c9, rfl⟩ := Kd.R_slice hr9
              have HR9 := hid hr9
              have HB9 := hid hb9
              have hC9 := Kd.C_drop (m := kk) (c := co) (Kd.F_now HF9.out) (by have := HVl.out; have := HKk.out; omega) (by have := HVl.out; omega)
              obtain ⟨A14, hA14⟩ : ∃ A1, A1 = (if co = kk then ((some ⟨gb, 0, none⟩) : Option Addr) else ((some ⟨gb, 0, none⟩) : Option Addr).map (·.add (kk * 2))) := ⟨_, rfl⟩
              have hC9' : slK2.C w9 A14 (vs.drop kk).length (vs.drop kk) := by rw [hA14]; exact hC9
              have hdl : (vs.drop kk).length = (st j).length - kk := by rw [List.length_drop, HVl.out]
              rw [hdl] at hC9'
              have HC9 := hid hC9'
              have hcut := cut_from (P := Tryz.prog) 58 62 .i64 Tryz.underlying58 hi62 2 hsz62 ((some ⟨gb, 0, none⟩) : Option Addr) (st j).length co (kk : Int) (by omega) (by have := HKk.out; omega)
              simp only [Int.toNat_natCast] at hcut
              rw [← hA14] at hcut
              clear hC9 hC9' hdl hA14 hT9 hBs9 hr9 hb9 hg9 hat9
              go_wp2_with (first
                | ((with_reducible refine gate_builtin (b := .append) (xs := #[.tmp 77, .tmp 80]) rfl ?_); at_builtin
                   refine Kd.R_append_rows slK2 (Rr := slK2.K w9) (w0 := w) w.heap.size rfl (.tmp 77) (.tmp 80) 58 62 (.agg #[(.slice none 0 0), (.slice none 0 0)]) 48 rfl Tryz.underlying58 info62 rfl (by decide) (by omega) (.slice A9 ys.length c9) ys (vs.drop kk) _ ((st j).length - kk) _ (fun _ => True) (fun _ => False) rfl rfl HR9.out HC9.out (fun _ _ h => slK2_KM h) (fun _ h => h.elim) (fun _ _ => trivial) HB9.out HB9.out.size ?aL ?_
                   (case aL => have := HLA.out; have := HKk.out; have := HVl.out; have hy := congrArg List.length HYs.out; simp at hy; omega)
                   intro v10 w10 hr10 hb10 hg10 hat10
                   refine Hid.out ?_))
              refine hid ?_
              rw [← HYs.out] at hr10
              have hI10 := pin_t HI9.out hg10 (Kd.R_base HR9.out) 62 (by decide) (Kd.R_typed HR9.out)
              rw [← HSt.out] at hI10
              have HFin := hid (show PartsDone w.heap.size w w10 v10 (st (j + 1)) from ⟨_, hr10, pin_lim hI10, hb10⟩)
              clear hr10 hb10 hg10 hat10 hI10 hcut HYs
              go_wp2_with fail
              go_roundw
              case rel => exact ⟨j + 1, by have := HLt.out; omega, by go_num, HFin⟩
              case measure => have := HLt.out; simp [intOf]; omega
            · obtain rfl : kk = (st j).length := by omega
              generalize w5.drewN nd = w7 at HD ⊢
              have HD7 := HD
              clear HD hlo
              have HB7 := hid (show Below w5.heap.size w5 w7 from HD7.out.below)
              have HP7 := hid ((HB7.out.block _ (Array.getElem?_eq_some_iff.1 HP5.out).1).trans HP5.out)
              have HI7 := hid (pin_below HIn5.out HB7.out)
              have HR7 := hid (Kd.R_below HRv5.out HB7.out)
              have HBw7 := hid (show Below w.heap.size w w7 from HBw.out.trans ((HB5.out.trans (HB7.out.mono HB5.out.size)).mono HBw.out.size))
              have HNg7 := hid (n_kept HNg.out (grown_none HB7.out) (fun k e => by cases e) (fun k e => by cases e))
              have hvl : vs.length = (st j).length := HI7.out.len
              obtain ⟨-, -, hC7⟩ := Kd.R_reads' HR7.out
              have HFv7 := hid (Kd.C_F slK2_heap hC7)
              have hCt := Kd.C_take hC7 (m := (st j).length) (by omega)
              have htl : (vs.take (st j).length).length = (st j).length := by rw [List.length_take]; omega
              rw [htl] at hCt
              have HCt := hid hCt
              have HVl := hid hvl
              have hlA := HA.out.len
              have HLA := hid (show (st j).length ≤ 1048576 from by have := (HS.out.len j (by omega)).1; omega)
              obtain ⟨i62, hi62, _, hsz62, _⟩ := info_parts info62
              have hcut := cut_to (P := Tryz.prog) 58 62 .i64 Tryz.underlying58 hi62 Ao (st j).length co ((st j).length : Int) (by omega) (by omega) hoc
              simp only [Int.toNat_natCast] at hcut
              have HKk := hid (show (st j).length ≤ (st j).length from by omega)
              clear hC7 hCt htl hvl hlA HD7 HR7
              go_wp2_with (first
                | ((with_reducible refine gate_builtin (b := .append) (xs := #[.tmp 65, .tmp 68]) rfl ?_); at_builtin
                   refine Kd.R_append_rows slK2 (Rr := slK2.K w7) (w0 := w) w.heap.size rfl (.tmp 65) (.tmp 68) 58 62 (.agg #[(.slice none 0 0), (.slice none 0 0)]) 48 rfl Tryz.underlying58 info62 rfl (by decide) (by omega) (.slice none 0 0) ([] : List (SL × SL)) (vs.take (st j).length) _ (st j).length _ (fun _ => True) (fun _ => False) rfl rfl (Kd.R_nil _ _ _ _ _) HCt.out (fun _ _ h => slK2_KM h) (fun _ h => h.elim) (fun _ _ => trivial) HBw7.out HBw7.out.size ?aL ?_
                   (case aL => have := HLA.out; have := HKk.out; simp; omega)
                   intro v8 w8 hr8 hb8 hg8 hat8
                   refine Hid.out ?_))
              refine hid ?_
              have hgn : w7.grownBy w8 none := hg8
              have HI8 := hid (pin_kept HI7.out hgn (fun k e => by cases e) (fun k q c e => by cases e))
              have HP8 := hid ((hgn.block _ (Array.getElem?_eq_some_iff.1 HP7.out).1 (by simp)).trans HP7.out)
              have HNg8 := hid (n_kept HNg7.out hgn (fun k e => by cases e) (fun k e => by cases e))
              have HFv8 := hid (Kd.F_grown HFv7.out hgn (fun k _ => by simp))
              have HAt8 := hid hat8
              rw [List.nil_append] at hr8
              obtain ⟨A8, c8, rfl⟩ := Kd.R_slice hr8
              have HR8 := hid hr8
              have HB8 := hid hb8
              have HG8 := hid hgn.size
              clear hr8 hb8 hg8 hat8 hgn hcut HCt HI7 HP7 HNg7
              have b0 : w8.cell? ⟨wr.heap.size, 0, none⟩ = some (Value.slice Ap p.f0.length cp) := (blk_cell HP8.out 0).trans rfl
              have b1 : w8.cell? ⟨wr.heap.size, 1, none⟩ = some (Value.float FloatKind.f64 p.f1) := (blk_cell HP8.out 1).trans rfl
              have HBa := hid (below_alloc HB8.out (Obj.cells #[Value.slice Ap p.f0.length cp, Value.float FloatKind.f64 p.f1] 41))
              have HRa := hid (Kd.R_alloc HR8.out (Obj.cells #[Value.slice Ap p.f0.length cp, Value.float FloatKind.f64 p.f1] 41))
              have hpa8 := heap_alloc_new w8 (Obj.cells #[Value.slice Ap p.f0.length cp, Value.float FloatKind.f64 p.f1] 41)
              have hFa : Kd.FK k41 (w8.alloc (Obj.cells #[Value.slice Ap p.f0.length cp, Value.float FloatKind.f64 p.f1] 41)) (fun k => k < w.heap.size) p [Value.slice Ap p.f0.length cp, Value.float FloatKind.f64 p.f1] := Kd.FK_step HFp.out (fun k hk _ => HBa.out.block k hk)
              have HB8s := hid (show w.heap.size ≤ w8.heap.size from HB8.out.size)
              have HNp := hid (n_one (cells := [Value.slice Ap p.f0.length cp, Value.float FloatKind.f64 p.f1]) rfl (by simp [Value.oneCell']) hpa8 HB8s.out hFa)
              have hba : Below w8.heap.size w8 (w8.alloc (Obj.cells #[Value.slice Ap p.f0.length cp, Value.float FloatKind.f64 p.f1] 41)) := below_alloc (Below.refl _ _) _
              have HIa := hid (pin_ins (pin_below HI8.out hba) (st j).length (by have := HVl.out; have := HKk.out; omega) ((Ag, (g p).length, cg), (some ⟨w8.heap.size, 0, none⟩, 1, 1)) (g p, [p]) (n_kept HNg8.out (grown_none hba) (fun k e => by cases e) (fun k e => by cases e)) HNp.out (fun b hb => by
                have : w8.heap.size = b := by simpa [sv, Value.ownBlock] using hb
                have h1 := HG8.out
                have h2 := HB7.out.size
                have h3 := HB5.out.size
                omega))
              have HFva := hid (Kd.F_alloc HFv8.out (Obj.cells #[Value.slice Ap p.f0.length cp, Value.float FloatKind.f64 p.f1] 41))
              have HPa8 := hid ((hba.block _ (Array.getElem?_eq_some_iff.1 HP8.out).1).trans HP8.out)
              clear hpa8 hFa hba
              go_wp2_with (first
                | ((with_reducible refine gate_builtin (b := .append) (xs := #[.tmp 70, .tmp 75]) rfl ?_); at_builtin
                   refine Kd.R_append slK2 (w0 := w) w.heap.size rfl (.tmp 70) (.tmp 75) 58 62 (.agg #[(.slice none 0 0), (.slice none 0 0)]) 48 rfl Tryz.underlying58 info62 rfl (by decide) (by omega) (.slice A8 (vs.take (st j).length).length c8) (vs.take (st j).length) ((Ag, (g p).length, cg), (some ⟨w8.heap.size, 0, none⟩, 1, 1)) [Value.slice Ag (g p).length cg, Value.slice (some ⟨w8.heap.size, 0, none⟩) 1 1] (fun _ => True) (fun _ => False) rfl (by first | rfl | (go_simp; done) | (go_simp; rfl)) (slK2_M _) (fun _ h => h.elim) (fun _ _ => trivial) HRa.out HBa.out HBa.out.size ?aL ?_
                   (case aL => have := HLA.out; have := HKk.out; simp; omega)
                   intro v9 w9 hr9 hb9 hg9 hat9
                   refine Hid.out ?_))
              refine hid ?_
              have hT9 := Kd.R_typed HRa.out
              have hBs9 := Kd.R_base HRa.out
              have HI9 := hid (pin_t HIa.out hg9 hBs9 62 (by decide) hT9)
              have HF9 := hid (Kd.F_grown HFva.out hg9 (fun k hk he => by
                rcases HAt8.out with h | ⟨b, h, hle⟩
                · rw [h] at he; simp [Value.ownBlock] at he
                · rw [h] at he; injection he with he; omega))
              generalize hys : vs.take (st j).length ++ [((Ag, (g p).length, cg), (some ⟨w8.heap.size, 0, none⟩, 1, 1))] = ys at hr9
              have HYs := hid hys
              clear hys
              obtain ⟨A9, c9, rfl⟩ := Kd.R_slice hr9
              have HR9 := hid hr9
              have HB9 := hid hb9
              have hC9 := Kd.C_drop (m := (st j).length) (c := co) (Kd.F_now HF9.out) (by have := HVl.out; have := HKk.out; omega) (by have := HVl.out; omega)
              obtain ⟨A14, hA14⟩ : ∃ A1, A1 = (if co = (st j).length then (Ao : Option Addr) else (Ao : Option Addr).map (·.add ((st j).length * 2))) := ⟨_, rfl⟩
              have hC9' : slK2.C w9 A14 (vs.drop (st j).length).length (vs.drop (st j).length) := by rw [hA14]; exact hC9
              have hdl : (vs.drop (st j).length).length = 0 := by rw [List.length_drop, HVl.out]; omega
              rw [hdl] at hC9'
              have HC9 := hid hC9'
              have hcut := cut_from (P := Tryz.prog) 58 62 .i64 Tryz.underlying58 hi62 2 hsz62 (Ao : Option Addr) (st j).length co ((st j).length : Int) (by omega) (by have := HKk.out; omega)
              simp only [Int.toNat_natCast] at hcut
              rw [← hA14, Nat.sub_self] at hcut
              clear hC9 hC9' hdl hA14 hT9 hBs9 hr9 hb9 hg9 hat9
              go_wp2_with (first
                | ((with_reducible refine gate_builtin (b := .append) (xs := #[.tmp 77, .tmp 80]) rfl ?_); at_builtin
                   refine Kd.R_append_rows slK2 (Rr := slK2.K w9) (w0 := w) w.heap.size rfl (.tmp 77) (.tmp 80) 58 62 (.agg #[(.slice none 0 0), (.slice none 0 0)]) 48 rfl Tryz.underlying58 info62 rfl (by decide) (by omega) (.slice A9 ys.length c9) ys (vs.drop (st j).length) _ 0 _ (fun _ => True) (fun _ => False) rfl rfl HR9.out HC9.out (fun _ _ h => slK2_KM h) (fun _ h => h.elim) (fun _ _ => trivial) HB9.out HB9.out.size ?aL ?_
                   (case aL => have := HLA.out; have := HKk.out; have := HVl.out; have hy := congrArg List.length HYs.out; simp at hy; omega)
                   intro v10 w10 hr10 hb10 hg10 hat10
                   refine Hid.out ?_))
              refine hid ?_
              rw [← HYs.out] at hr10
              have hI10 := pin_t HI9.out hg10 (Kd.R_base HR9.out) 62 (by decide) (Kd.R_typed HR9.out)
              rw [← HSt.out] at hI10
              have HFin := hid (show PartsDone w.heap.size w w10 v10 (st (j + 1)) from ⟨_, hr10, pin_lim hI10, hb10⟩)
              clear hr10 hb10 hg10 hat10 hI10 hcut HYs
              go_wp2_with fail
              go_roundw
              case rel => exact ⟨j + 1, by have := HLt.out; omega, by go_num, HFin⟩
              case measure => have := HLt.out; simp [intOf]; omega
    · obtain rfl : j = l0.length := by omega
      have HPf := HP
      clear HP
      go_wp2
      go_ret
      exact ⟨_, rfl, HPf.out⟩
end Go.Proofs.YtoncpeadbhgmaaaGreatDoor.G

