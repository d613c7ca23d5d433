/- Parts of the proof of AggrGroups. -/
import Derived.ArgAppend
import Derived.Below
import Derived.BigQuiet
import Derived.Deep.AppendLies
import Derived.Deep.CutBlock
import Derived.Deep.DeepCutAuto
import Derived.Deep.Draws
import Derived.Deep.LoopGhost
import Derived.Deep.OwnRows
import Derived.Deep.QuietTactic
import Derived.Deep.RegionHeld3
import Derived.Ground.NamesProg
import Derived.Ground.SlsfProg
import Derived.IntWalk
import Derived.KernelRfl
import Derived.Laws.BitsLemmas
import Derived.Laws.BytesArg
import Derived.Laws.Externs
import Derived.Laws.IdiomCopy
import Derived.Laws.MakeOwn
import Derived.Laws.OwnMore
import Derived.Laws.Rows
import Derived.Laws.Slices
import Derived.Laws.StructEq
import Derived.Lib.AppendStr
import Derived.Lib.ConvBytes
import Derived.Maps.AppendAt
import Derived.Maps.OwnOps
import Derived.Maps.OwnSet
import Derived.Maps.Views
import Derived.OrdersHeld
import Derived.Outline
import Derived.OwnWalk
import Derived.RowKit
import Derived.RowKit3
import Derived.Shelf.Bits.Mul64
import Derived.Shelf.SlSortCmp.NoneTotal
import Derived.Shelf.Small.Strs
import Derived.Shelf.Strings.Search1
import Derived.Shelf.Unicode.ValidAny
import Derived.Sort.Grow
import Derived.Tactics
import Derived.Test.YtoncpeadbhgmaaaGreatDoorGs0
import Derived.Test.YtoncpeadbhgmaaaGreatDoorGs1
import Derived.Test.YtoncpeadbhgmaaaGreatDoorGs3
import Derived.Test.YtoncpeadbhgmaaaGreatDoorGs4
import Derived.Test.YtoncpeadbhgmaaaGreatDoorGs5
import Derived.Test.YtoncpeadbhgmaaaGreatDoorGs6
import Derived.Test.YtoncpeadbhgmaaaGreatDoorProg
import Derived.WalkKit
import Derived.WalkSpells
import Derived.WideLaws
namespace Go.Proofs.YtoncpeadbhgmaaaGreatDoor.G
open Go.RowKit Go.Proofs.YtoncpeadbhgmaaaGreatDoorW.PrintWords Go.Proofs.YtoncpeadbhgmaaaGreatDoorW.PrintLast Go.Proofs.YtoncpeadbhgmaaaGreatDoorW.PrintMore
attribute [local go_sem] max2_int min2_int max_two min_two max_three min_three max_four min_four   -- for this text's walks alone
set_option linter.unusedVariables false
set_option linter.unusedSimpArgs false

def labels_Right.l0 : Nat → List (S89) → List (S89) → Int → Int → Option (Int × Int)
  | 0, _, _, _, _ => none
  | k + 1, x0, x10, x11, x12 => if x12 < x11 then (if 0 ≤ x12 then (if x12 < (x10.length : Int) then ((labels_Name.f ((rd_T89 x10 x12).f0)).bind fun t105 => (if t105 = true then ((labels_value.f ((rd_T89 x10 x12).f1)).bind fun t106 => (if t106 = 0 then (if x12 > 0 then (if 0 ≤ (wrap64 (x12 - 1)) then (if (wrap64 (x12 - 1)) < (x0.length : Int) then (if ((Op.bytesLess (((rd_T89 x0 (wrap64 (x12 - 1))).f0).toList) (((rd_T89 x10 x12).f0).toList)) = true) then (labels_Right.l0 k x0 x10 x11 (wrap64 (x12 + 1))) else (some (3, x12))) else (none)) else (none)) else (labels_Right.l0 k x0 x10 x11 (wrap64 (x12 + 1)))) else (some (t106, x12)))) else (some (40, x12)))) else (none)) else (none)) else (some (0, 0))
def labels_Right.f (k : Nat) (l0 : List (S89)) : Option (Int × Int) := if (l0.length : Int) > 16 then (some (8, 0)) else (labels_Right.l0 k l0 l0 (l0.length : Int) 0)
set_option maxHeartbeats 8000000 in
set_option maxRecDepth 100000 in
theorem labels_Right.calls (k : Nat) (A0 : Option Addr) (c0 : Nat) (l0 : List (S89)) (r1 : Int) (r2 : Int) (w : World) (hr0 : Kd.C k89 w A0 l0.length l0) (hc0 : l0.length ≤ c0) (hT : Tabs w) (h : labels_Right.f k l0 = some (r1, r2)) :
    Calls Tryz.prog 73 #[.slice A0 l0.length c0] w fun e w' => e = .returned (.tuple #[.int .i64 r1, .int .i64 r2]) ∧ Below w.heap.size w w' := by
  have hu89 := Tryz.underlying89
  have HR0 := Aside0.mk hr0
  have HC0 := Aside0.mk hc0
  clear hr0 hc0
  have HT := Aside0.mk hT
  clear hT
  have HB := Aside0.mk (Below.refl w.heap.size w)
  have H : (if (l0.length : Int) > 16 then (some (8, 0)) else (labels_Right.l0 k l0 l0 (l0.length : Int) 0)) = some (r1, r2) := h
  clear h
  by_cases c2 : (l0.length : Int) > 16
  · rw [if_pos c2] at H
    have c2b0 : decide (16 < (l0.length : Int)) = true := decide_eq_true c2
    have c2b1 : decide (16 < l0.length) = true := decide_eq_true (by omega)
    clear c2
    simp only [Option.some.injEq, Prod.mk.injEq] at H
    obtain ⟨rfl, rfl⟩ := H
    go_enter Tryz.func73, Tryz.ntmps73
    go_wp2
    repeat (go_quiet (fail); try go_wp2)
    go_ret2
    exact ⟨by first | rfl | (simp [errW_none, errW_some] <;> rfl) | (simp [*, errW_none, errW_some] <;> rfl), by repeat (first | (with_reducible first | exact HB.out | apply below_alloc | apply pw_below_drewN | apply below_drew1) | exact HB.out)⟩
  · rw [if_neg c2] at H
    have c2b0 : decide (16 < (l0.length : Int)) = false := decide_eq_false c2
    have c2b1 : decide (16 < l0.length) = false := decide_eq_false (by omega)
    clear c2
    have H' := Aside0.mk H
    clear H
    go_enter Tryz.func73, Tryz.ntmps73
    go_wp2
    repeat (go_quiet (fail); try go_wp2)
    go_loopg [12] k (fun kq v12 w' => ∃ (x12_1 : Int), v12 = .int .i64 x12_1 ∧ Aside0 (labels_Right.l0 kq l0 l0 (l0.length : Int) x12_1 = some (r1, r2)) ∧ Aside0 (kq ≤ k) ∧ Aside0 (Below w.heap.size w w'))
    case atStart => exact ⟨(0), (by first | rfl | (simp; done) | (simp [*]; done)), H', ⟨Nat.le_refl _⟩, ⟨by repeat (first | (with_reducible first | exact HB.out | apply below_alloc | apply pw_below_drewN | apply below_drew1) | exact HB.out)⟩⟩
    case round =>
      clear H'
      try clear c2
      try clear c2b0
      try clear c2b1
      try clear p2
      obtain ⟨x12_1, rfl, HA, HK1, HB⟩ := hrel
      cases gk with
      | zero => exact absurd HA.out (by simp [labels_Right.l0])
      | succ k1 =>
        have H := HA.out
        clear HA
        simp only [labels_Right.l0] at H
        by_cases c3 : x12_1 < (l0.length : Int)
        · rw [if_pos c3] at H
          have c3b0 : decide (x12_1 < (l0.length : Int)) = true := decide_eq_true c3
          clear c3
          by_cases c4 : 0 ≤ x12_1
          · rw [if_pos c4] at H
            have c4b0 : decide (0 ≤ x12_1) = true := decide_eq_true c4
            clear c4
            by_cases c5 : x12_1 < (l0.length : Int)
            · rw [if_pos c5] at H
              have c5b0 : decide (x12_1 < (l0.length : Int)) = true := decide_eq_true c5
              clear c5
              replace H := Option.bind_eq_some_iff.mp H
              obtain ⟨t105, A60, H⟩ := H
              replace H : (if t105 = true then ((labels_value.f ((rd_T89 l0 x12_1).f1)).bind fun t106 => (if t106 = 0 then (if x12_1 > 0 then (if 0 ≤ (wrap64 (x12_1 - 1)) then (if (wrap64 (x12_1 - 1)) < (l0.length : Int) then (if ((Op.bytesLess (((rd_T89 l0 (wrap64 (x12_1 - 1))).f0).toList) (((rd_T89 l0 x12_1).f0).toList)) = true) then (labels_Right.l0 k1 l0 l0 (l0.length : Int) (wrap64 (x12_1 + 1))) else (some (3, x12_1))) else (none)) else (none)) else (labels_Right.l0 k1 l0 l0 (l0.length : Int) (wrap64 (x12_1 + 1)))) else (some (t106, x12_1)))) else (some (40, x12_1))) = some (r1, r2) := H
              have A6 := Aside0.mk A60
              clear A60
              by_cases c7 : t105 = true
              · subst c7
                have H1 : ((labels_value.f ((rd_T89 l0 x12_1).f1)).bind fun t106 => (if t106 = 0 then (if x12_1 > 0 then (if 0 ≤ (wrap64 (x12_1 - 1)) then (if (wrap64 (x12_1 - 1)) < (l0.length : Int) then (if ((Op.bytesLess (((rd_T89 l0 (wrap64 (x12_1 - 1))).f0).toList) (((rd_T89 l0 x12_1).f0).toList)) = true) then (labels_Right.l0 k1 l0 l0 (l0.length : Int) (wrap64 (x12_1 + 1))) else (some (3, x12_1))) else (none)) else (none)) else (labels_Right.l0 k1 l0 l0 (l0.length : Int) (wrap64 (x12_1 + 1)))) else (some (t106, x12_1)))) = some (r1, r2) := by rw [if_pos rfl] at H; exact H
                clear H
                have H := H1
                clear H1
                replace H := Option.bind_eq_some_iff.mp H
                obtain ⟨t106, A80, H⟩ := H
                replace H : (if t106 = 0 then (if x12_1 > 0 then (if 0 ≤ (wrap64 (x12_1 - 1)) then (if (wrap64 (x12_1 - 1)) < (l0.length : Int) then (if ((Op.bytesLess (((rd_T89 l0 (wrap64 (x12_1 - 1))).f0).toList) (((rd_T89 l0 x12_1).f0).toList)) = true) then (labels_Right.l0 k1 l0 l0 (l0.length : Int) (wrap64 (x12_1 + 1))) else (some (3, x12_1))) else (none)) else (none)) else (labels_Right.l0 k1 l0 l0 (l0.length : Int) (wrap64 (x12_1 + 1)))) else (some (t106, x12_1))) = some (r1, r2) := H
                have A8 := Aside0.mk A80
                clear A80
                by_cases c9 : t106 = 0
                · rw [if_pos c9] at H
                  have c9b0 : (t106 == 0) = true := beq_iff_eq.mpr c9
                  have c9b1 : (t106 != 0) = false := bne_eq_false_iff_eq.mpr c9
                  clear c9
                  by_cases c10 : x12_1 > 0
                  · rw [if_pos c10] at H
                    have c10b0 : decide (0 < x12_1) = true := decide_eq_true c10
                    clear c10
                    obtain ⟨ji11, hji11⟩ : ∃ j_ : Int, (wrap64 (x12_1 - 1)) = j_ := ⟨_, rfl⟩
                    replace H : (if 0 ≤ (ji11) then (if (ji11) < (l0.length : Int) then (if ((Op.bytesLess (((rd_T89 l0 (ji11)).f0).toList) (((rd_T89 l0 x12_1).f0).toList)) = true) then (labels_Right.l0 k1 l0 l0 (l0.length : Int) (wrap64 (x12_1 + 1))) else (some (3, x12_1))) else (none)) else (none)) = some (r1, r2) := by first | (rw [hji11] at H; exact H) | (simp only [hji11] at H ⊢; exact H)
                    (try rw [hji11] at A6)
                    (try rw [hji11] at A8)
                    have hji11w : (IntKind.i64.wrap (x12_1 - 1)) = ji11 := (i64_w _).trans hji11
                    by_cases c12 : 0 ≤ (ji11)
                    · rw [if_pos c12] at H
                      have c12b0 : decide (0 ≤ (ji11)) = true := decide_eq_true c12
                      clear c12
                      by_cases c13 : (ji11) < (l0.length : Int)
                      · rw [if_pos c13] at H
                        have c13b0 : decide ((ji11) < (l0.length : Int)) = true := decide_eq_true c13
                        clear c13
                        by_cases c14 : ((Op.bytesLess (((rd_T89 l0 (ji11)).f0).toList) (((rd_T89 l0 x12_1).f0).toList)) = true)
                        · rw [if_pos c14] at H
                          have c14b0 : (Op.bytesLess (((rd_T89 l0 (ji11)).f0).toList) (((rd_T89 l0 x12_1).f0).toList)) = true := c14
                          clear c14
                          have H' := Aside0.mk H
                          clear H
                          have p103 : 0 ≤ (x12_1 : Int) := of_decide_eq_true (by first | (with_reducible assumption) | assumption)
                          have q103 : x12_1 < (l0.length : Int) := of_decide_eq_true (by first | (with_reducible assumption) | assumption)
                          obtain ⟨ad103, e103, hx103_0, hx103_1⟩ := at_T89 HR0.out x12_1 p103 q103
                          cases e103
                          replace hx103_0 := (HB.out.cell (World.block_lt_of_cell? w _ hx103_0)).trans hx103_0
                          replace hx103_1 := (HB.out.cell (World.block_lt_of_cell? w _ hx103_1)).trans hx103_1
                          replace p103 := eq_true p103
                          replace q103 := eq_true q103
                          go_wp2_with (first | ((with_reducible refine gate_dst (N := 5) rfl ?_); refine box_event ?hg (N := 5) ?hd (cs := #[.string (⟨#[]⟩ : ByteArray), .string (⟨#[]⟩ : ByteArray)]) (t := 89) ?hr ?_; (case hd => rfl); (case hg => rfl); (case hr => first | (go_simp; done) | (go_simp; rfl)); intro gb104 hg w15 hbox hb; have n0_ := Aside0.mk (below_step (by repeat (first | (with_reducible first | exact HB.out | apply below_alloc | apply pw_below_drewN | apply below_drew1) | exact HB.out)) hb); have n1_ := Aside0.mk (hbox); have n2_ := Aside0.mk ((by rw [hg]; exact (below_size (by repeat (first | (with_reducible first | exact HB.out | apply below_alloc | apply pw_below_drewN | apply below_drew1) | exact HB.out))) : w.heap.size ≤ gb104)); have n3_ := Aside0.mk ((by rw [hg]; exact (below_size (by repeat (first | (with_reducible first | exact HB.out | apply below_alloc | apply pw_below_drewN | apply below_drew1) | exact HB.out))) : w.heap.size ≤ gb104)); clear HB; have HB := n0_; have BK104 := n1_; have GW104 := n2_; have GE104 := n3_; clear n0_ n1_ n2_ n3_; clear hb hbox hg; have hcz16_0 : w15.cell? ⟨gb104, 0, none⟩ = some (.string (⟨#[]⟩ : ByteArray)) := (blk_cell BK104.out 0).trans rfl; have hcz16_1 : w15.cell? ⟨gb104, 1, none⟩ = some (.string (⟨#[]⟩ : ByteArray)) := (blk_cell BK104.out 1).trans rfl; have hfz16_0 := blk_frozen BK104.out 0; have hfz16_1 := blk_frozen BK104.out 1) | (go_at_call 99; (with_reducible refine (labels_Name.calls ((rd_T89 l0 x12_1).f0) true _ A6.out).mono ?_); rintro e w17 ⟨rfl, hb⟩; have n0_ := Aside0.mk (blk_below (g := gb104) (o := .cells #[.string ((rd_T89 l0 x12_1).f0), .string ((rd_T89 l0 x12_1).f1)] 89 (0, 0)) (by (with_reducible repeat (first | refine blk_drewN ?_ _ | refine blk_drew ?_ | refine blk_alloc ?_ _)); refine blk_put (cs := #[.string ((rd_T89 l0 x12_1).f0), .string (⟨#[]⟩ : ByteArray)]) ?_ 1 _ rfl; (with_reducible repeat (first | refine blk_drewN ?_ _ | refine blk_drew ?_ | refine blk_alloc ?_ _)); refine blk_put (cs := #[.string (⟨#[]⟩ : ByteArray), .string (⟨#[]⟩ : ByteArray)]) ?_ 0 _ rfl; (with_reducible repeat (first | refine blk_drewN ?_ _ | refine blk_drew ?_ | refine blk_alloc ?_ _)); exact BK104.out) hb); have n1_ := Aside0.mk (below_step (by repeat (first | (with_reducible first | exact HB.out | apply below_alloc | apply pw_below_drewN | apply below_drew1 | refine below_set ?_ GE104.out) | exact HB.out)) hb); clear BK104; clear HB; have BK104 := n0_; have HB := n1_; clear n0_ n1_; (try clear hb); (try clear hb2); (try clear hk); (try clear hi); have hcz18_0 : w17.cell? ⟨gb104, 0, none⟩ = some (.string ((rd_T89 l0 x12_1).f0)) := (blk_cell BK104.out 0).trans rfl; have hcz18_1 : w17.cell? ⟨gb104, 1, none⟩ = some (.string ((rd_T89 l0 x12_1).f1)) := (blk_cell BK104.out 1).trans rfl; have hfz18_0 := blk_frozen BK104.out 0; have hfz18_1 := blk_frozen BK104.out 1) | (go_at_call 125; (with_reducible refine (labels_value.calls ((rd_T89 l0 x12_1).f1) t106 _ ?side1 A8.out).mono ?_); (case side1 => first | exact HT.out | exact tabs_below HT.out (by repeat (first | (with_reducible first | exact HB.out | apply below_alloc | apply pw_below_drewN | apply below_drew1 | refine below_set ?_ GE104.out) | exact HB.out))); rintro e w19 ⟨rfl, hb⟩; have n0_ := Aside0.mk (blk_below (g := gb104) (o := .cells #[.string ((rd_T89 l0 x12_1).f0), .string ((rd_T89 l0 x12_1).f1)] 89 (0, 0)) (by (with_reducible repeat (first | refine blk_drewN ?_ _ | refine blk_drew ?_ | refine blk_alloc ?_ _)); exact BK104.out) hb); have n1_ := Aside0.mk (below_step (by repeat (first | (with_reducible first | exact HB.out | apply below_alloc | apply pw_below_drewN | apply below_drew1 | refine below_set ?_ GE104.out) | exact HB.out)) hb); clear BK104; clear HB; have BK104 := n0_; have HB := n1_; clear n0_ n1_; (try clear hb); (try clear hb2); (try clear hk); (try clear hi); have hcz20_0 : w19.cell? ⟨gb104, 0, none⟩ = some (.string ((rd_T89 l0 x12_1).f0)) := (blk_cell BK104.out 0).trans rfl; have hcz20_1 : w19.cell? ⟨gb104, 1, none⟩ = some (.string ((rd_T89 l0 x12_1).f1)) := (blk_cell BK104.out 1).trans rfl; have hfz20_0 := blk_frozen BK104.out 0; have hfz20_1 := blk_frozen BK104.out 1; have p107 : 0 ≤ ((ji11) : Int) := of_decide_eq_true (by first | (with_reducible assumption) | assumption); have q107 : (ji11) < (l0.length : Int) := of_decide_eq_true (by first | (with_reducible assumption) | assumption); obtain ⟨ad107, e107, hx107_0, hx107_1⟩ := at_T89 HR0.out (ji11) p107 q107; obtain rfl : ad103 = ad107 := (by injection e107); replace hx107_0 := (HB.out.cell (World.block_lt_of_cell? w _ hx107_0)).trans hx107_0; replace hx107_1 := (HB.out.cell (World.block_lt_of_cell? w _ hx107_1)).trans hx107_1; replace p107 := eq_true p107; replace q107 := eq_true q107))
                          repeat (go_quiet (first | ((with_reducible refine gate_dst (N := 5) rfl ?_); refine box_event ?hg (N := 5) ?hd (cs := #[.string (⟨#[]⟩ : ByteArray), .string (⟨#[]⟩ : ByteArray)]) (t := 89) ?hr ?_; (case hd => rfl); (case hg => rfl); (case hr => first | (go_simp; done) | (go_simp; rfl)); intro gb104 hg w15 hbox hb; have n0_ := Aside0.mk (below_step (by repeat (first | (with_reducible first | exact HB.out | apply below_alloc | apply pw_below_drewN | apply below_drew1) | exact HB.out)) hb); have n1_ := Aside0.mk (hbox); have n2_ := Aside0.mk ((by rw [hg]; exact (below_size (by repeat (first | (with_reducible first | exact HB.out | apply below_alloc | apply pw_below_drewN | apply below_drew1) | exact HB.out))) : w.heap.size ≤ gb104)); have n3_ := Aside0.mk ((by rw [hg]; exact (below_size (by repeat (first | (with_reducible first | exact HB.out | apply below_alloc | apply pw_below_drewN | apply below_drew1) | exact HB.out))) : w.heap.size ≤ gb104)); clear HB; have HB := n0_; have BK104 := n1_; have GW104 := n2_; have GE104 := n3_; clear n0_ n1_ n2_ n3_; clear hb hbox hg; have hcz16_0 : w15.cell? ⟨gb104, 0, none⟩ = some (.string (⟨#[]⟩ : ByteArray)) := (blk_cell BK104.out 0).trans rfl; have hcz16_1 : w15.cell? ⟨gb104, 1, none⟩ = some (.string (⟨#[]⟩ : ByteArray)) := (blk_cell BK104.out 1).trans rfl; have hfz16_0 := blk_frozen BK104.out 0; have hfz16_1 := blk_frozen BK104.out 1) | (go_at_call 99; (with_reducible refine (labels_Name.calls ((rd_T89 l0 x12_1).f0) true _ A6.out).mono ?_); rintro e w17 ⟨rfl, hb⟩; have n0_ := Aside0.mk (blk_below (g := gb104) (o := .cells #[.string ((rd_T89 l0 x12_1).f0), .string ((rd_T89 l0 x12_1).f1)] 89 (0, 0)) (by (with_reducible repeat (first | refine blk_drewN ?_ _ | refine blk_drew ?_ | refine blk_alloc ?_ _)); refine blk_put (cs := #[.string ((rd_T89 l0 x12_1).f0), .string (⟨#[]⟩ : ByteArray)]) ?_ 1 _ rfl; (with_reducible repeat (first | refine blk_drewN ?_ _ | refine blk_drew ?_ | refine blk_alloc ?_ _)); refine blk_put (cs := #[.string (⟨#[]⟩ : ByteArray), .string (⟨#[]⟩ : ByteArray)]) ?_ 0 _ rfl; (with_reducible repeat (first | refine blk_drewN ?_ _ | refine blk_drew ?_ | refine blk_alloc ?_ _)); exact BK104.out) hb); have n1_ := Aside0.mk (below_step (by repeat (first | (with_reducible first | exact HB.out | apply below_alloc | apply pw_below_drewN | apply below_drew1 | refine below_set ?_ GE104.out) | exact HB.out)) hb); clear BK104; clear HB; have BK104 := n0_; have HB := n1_; clear n0_ n1_; (try clear hb); (try clear hb2); (try clear hk); (try clear hi); have hcz18_0 : w17.cell? ⟨gb104, 0, none⟩ = some (.string ((rd_T89 l0 x12_1).f0)) := (blk_cell BK104.out 0).trans rfl; have hcz18_1 : w17.cell? ⟨gb104, 1, none⟩ = some (.string ((rd_T89 l0 x12_1).f1)) := (blk_cell BK104.out 1).trans rfl; have hfz18_0 := blk_frozen BK104.out 0; have hfz18_1 := blk_frozen BK104.out 1) | (go_at_call 125; (with_reducible refine (labels_value.calls ((rd_T89 l0 x12_1).f1) t106 _ ?side1 A8.out).mono ?_); (case side1 => first | exact HT.out | exact tabs_below HT.out (by repeat (first | (with_reducible first | exact HB.out | apply below_alloc | apply pw_below_drewN | apply below_drew1 | refine below_set ?_ GE104.out) | exact HB.out))); rintro e w19 ⟨rfl, hb⟩; have n0_ := Aside0.mk (blk_below (g := gb104) (o := .cells #[.string ((rd_T89 l0 x12_1).f0), .string ((rd_T89 l0 x12_1).f1)] 89 (0, 0)) (by (with_reducible repeat (first | refine blk_drewN ?_ _ | refine blk_drew ?_ | refine blk_alloc ?_ _)); exact BK104.out) hb); have n1_ := Aside0.mk (below_step (by repeat (first | (with_reducible first | exact HB.out | apply below_alloc | apply pw_below_drewN | apply below_drew1 | refine below_set ?_ GE104.out) | exact HB.out)) hb); clear BK104; clear HB; have BK104 := n0_; have HB := n1_; clear n0_ n1_; (try clear hb); (try clear hb2); (try clear hk); (try clear hi); have hcz20_0 : w19.cell? ⟨gb104, 0, none⟩ = some (.string ((rd_T89 l0 x12_1).f0)) := (blk_cell BK104.out 0).trans rfl; have hcz20_1 : w19.cell? ⟨gb104, 1, none⟩ = some (.string ((rd_T89 l0 x12_1).f1)) := (blk_cell BK104.out 1).trans rfl; have hfz20_0 := blk_frozen BK104.out 0; have hfz20_1 := blk_frozen BK104.out 1; have p107 : 0 ≤ ((ji11) : Int) := of_decide_eq_true (by first | (with_reducible assumption) | assumption); have q107 : (ji11) < (l0.length : Int) := of_decide_eq_true (by first | (with_reducible assumption) | assumption); obtain ⟨ad107, e107, hx107_0, hx107_1⟩ := at_T89 HR0.out (ji11) p107 q107; obtain rfl : ad103 = ad107 := (by injection e107); replace hx107_0 := (HB.out.cell (World.block_lt_of_cell? w _ hx107_0)).trans hx107_0; replace hx107_1 := (HB.out.cell (World.block_lt_of_cell? w _ hx107_1)).trans hx107_1; replace p107 := eq_true p107; replace q107 := eq_true q107)); try go_wp2_with (first | ((with_reducible refine gate_dst (N := 5) rfl ?_); refine box_event ?hg (N := 5) ?hd (cs := #[.string (⟨#[]⟩ : ByteArray), .string (⟨#[]⟩ : ByteArray)]) (t := 89) ?hr ?_; (case hd => rfl); (case hg => rfl); (case hr => first | (go_simp; done) | (go_simp; rfl)); intro gb104 hg w15 hbox hb; have n0_ := Aside0.mk (below_step (by repeat (first | (with_reducible first | exact HB.out | apply below_alloc | apply pw_below_drewN | apply below_drew1) | exact HB.out)) hb); have n1_ := Aside0.mk (hbox); have n2_ := Aside0.mk ((by rw [hg]; exact (below_size (by repeat (first | (with_reducible first | exact HB.out | apply below_alloc | apply pw_below_drewN | apply below_drew1) | exact HB.out))) : w.heap.size ≤ gb104)); have n3_ := Aside0.mk ((by rw [hg]; exact (below_size (by repeat (first | (with_reducible first | exact HB.out | apply below_alloc | apply pw_below_drewN | apply below_drew1) | exact HB.out))) : w.heap.size ≤ gb104)); clear HB; have HB := n0_; have BK104 := n1_; have GW104 := n2_; have GE104 := n3_; clear n0_ n1_ n2_ n3_; clear hb hbox hg; have hcz16_0 : w15.cell? ⟨gb104, 0, none⟩ = some (.string (⟨#[]⟩ : ByteArray)) := (blk_cell BK104.out 0).trans rfl; have hcz16_1 : w15.cell? ⟨gb104, 1, none⟩ = some (.string (⟨#[]⟩ : ByteArray)) := (blk_cell BK104.out 1).trans rfl; have hfz16_0 := blk_frozen BK104.out 0; have hfz16_1 := blk_frozen BK104.out 1) | (go_at_call 99; (with_reducible refine (labels_Name.calls ((rd_T89 l0 x12_1).f0) true _ A6.out).mono ?_); rintro e w17 ⟨rfl, hb⟩; have n0_ := Aside0.mk (blk_below (g := gb104) (o := .cells #[.string ((rd_T89 l0 x12_1).f0), .string ((rd_T89 l0 x12_1).f1)] 89 (0, 0)) (by (with_reducible repeat (first | refine blk_drewN ?_ _ | refine blk_drew ?_ | refine blk_alloc ?_ _)); refine blk_put (cs := #[.string ((rd_T89 l0 x12_1).f0), .string (⟨#[]⟩ : ByteArray)]) ?_ 1 _ rfl; (with_reducible repeat (first | refine blk_drewN ?_ _ | refine blk_drew ?_ | refine blk_alloc ?_ _)); refine blk_put (cs := #[.string (⟨#[]⟩ : ByteArray), .string (⟨#[]⟩ : ByteArray)]) ?_ 0 _ rfl; (with_reducible repeat (first | refine blk_drewN ?_ _ | refine blk_drew ?_ | refine blk_alloc ?_ _)); exact BK104.out) hb); have n1_ := Aside0.mk (below_step (by repeat (first | (with_reducible first | exact HB.out | apply below_alloc | apply pw_below_drewN | apply below_drew1 | refine below_set ?_ GE104.out) | exact HB.out)) hb); clear BK104; clear HB; have BK104 := n0_; have HB := n1_; clear n0_ n1_; (try clear hb); (try clear hb2); (try clear hk); (try clear hi); have hcz18_0 : w17.cell? ⟨gb104, 0, none⟩ = some (.string ((rd_T89 l0 x12_1).f0)) := (blk_cell BK104.out 0).trans rfl; have hcz18_1 : w17.cell? ⟨gb104, 1, none⟩ = some (.string ((rd_T89 l0 x12_1).f1)) := (blk_cell BK104.out 1).trans rfl; have hfz18_0 := blk_frozen BK104.out 0; have hfz18_1 := blk_frozen BK104.out 1) | (go_at_call 125; (with_reducible refine (labels_value.calls ((rd_T89 l0 x12_1).f1) t106 _ ?side1 A8.out).mono ?_); (case side1 => first | exact HT.out | exact tabs_below HT.out (by repeat (first | (with_reducible first | exact HB.out | apply below_alloc | apply pw_below_drewN | apply below_drew1 | refine below_set ?_ GE104.out) | exact HB.out))); rintro e w19 ⟨rfl, hb⟩; have n0_ := Aside0.mk (blk_below (g := gb104) (o := .cells #[.string ((rd_T89 l0 x12_1).f0), .string ((rd_T89 l0 x12_1).f1)] 89 (0, 0)) (by (with_reducible repeat (first | refine blk_drewN ?_ _ | refine blk_drew ?_ | refine blk_alloc ?_ _)); exact BK104.out) hb); have n1_ := Aside0.mk (below_step (by repeat (first | (with_reducible first | exact HB.out | apply below_alloc | apply pw_below_drewN | apply below_drew1 | refine below_set ?_ GE104.out) | exact HB.out)) hb); clear BK104; clear HB; have BK104 := n0_; have HB := n1_; clear n0_ n1_; (try clear hb); (try clear hb2); (try clear hk); (try clear hi); have hcz20_0 : w19.cell? ⟨gb104, 0, none⟩ = some (.string ((rd_T89 l0 x12_1).f0)) := (blk_cell BK104.out 0).trans rfl; have hcz20_1 : w19.cell? ⟨gb104, 1, none⟩ = some (.string ((rd_T89 l0 x12_1).f1)) := (blk_cell BK104.out 1).trans rfl; have hfz20_0 := blk_frozen BK104.out 0; have hfz20_1 := blk_frozen BK104.out 1; have p107 : 0 ≤ ((ji11) : Int) := of_decide_eq_true (by first | (with_reducible assumption) | assumption); have q107 : (ji11) < (l0.length : Int) := of_decide_eq_true (by first | (with_reducible assumption) | assumption); obtain ⟨ad107, e107, hx107_0, hx107_1⟩ := at_T89 HR0.out (ji11) p107 q107; obtain rfl : ad103 = ad107 := (by injection e107); replace hx107_0 := (HB.out.cell (World.block_lt_of_cell? w _ hx107_0)).trans hx107_0; replace hx107_1 := (HB.out.cell (World.block_lt_of_cell? w _ hx107_1)).trans hx107_1; replace p107 := eq_true p107; replace q107 := eq_true q107)))
                          go_roundg k1
                          case measure => have := HK1.out; omega
                          case rel => exact ⟨(wrap64 (x12_1 + 1)), (by first | rfl | (simp; done) | (simp [*]; done)), H', ⟨by have := HK1.out; omega⟩, ⟨by repeat (first | (with_reducible first | exact HB.out | apply below_alloc | apply pw_below_drewN | apply below_drew1 | refine below_set ?_ GE104.out) | exact HB.out)⟩⟩
                        · rw [if_neg c14] at H
                          have c14b0 : (Op.bytesLess (((rd_T89 l0 (ji11)).f0).toList) (((rd_T89 l0 x12_1).f0).toList)) = false := by simpa using c14
                          clear c14
                          simp only [Option.some.injEq, Prod.mk.injEq] at H
                          obtain ⟨rfl, rfl⟩ := H
                          have p103 : 0 ≤ (x12_1 : Int) := of_decide_eq_true (by first | (with_reducible assumption) | assumption)
                          have q103 : x12_1 < (l0.length : Int) := of_decide_eq_true (by first | (with_reducible assumption) | assumption)
                          obtain ⟨ad103, e103, hx103_0, hx103_1⟩ := at_T89 HR0.out x12_1 p103 q103
                          cases e103
                          replace hx103_0 := (HB.out.cell (World.block_lt_of_cell? w _ hx103_0)).trans hx103_0
                          replace hx103_1 := (HB.out.cell (World.block_lt_of_cell? w _ hx103_1)).trans hx103_1
                          replace p103 := eq_true p103
                          replace q103 := eq_true q103
                          go_wp2_with (first | ((with_reducible refine gate_dst (N := 5) rfl ?_); refine box_event ?hg (N := 5) ?hd (cs := #[.string (⟨#[]⟩ : ByteArray), .string (⟨#[]⟩ : ByteArray)]) (t := 89) ?hr ?_; (case hd => rfl); (case hg => rfl); (case hr => first | (go_simp; done) | (go_simp; rfl)); intro gb104 hg w21 hbox hb; have n0_ := Aside0.mk (below_step (by repeat (first | (with_reducible first | exact HB.out | apply below_alloc | apply pw_below_drewN | apply below_drew1) | exact HB.out)) hb); have n1_ := Aside0.mk (hbox); have n2_ := Aside0.mk ((by rw [hg]; exact (below_size (by repeat (first | (with_reducible first | exact HB.out | apply below_alloc | apply pw_below_drewN | apply below_drew1) | exact HB.out))) : w.heap.size ≤ gb104)); have n3_ := Aside0.mk ((by rw [hg]; exact (below_size (by repeat (first | (with_reducible first | exact HB.out | apply below_alloc | apply pw_below_drewN | apply below_drew1) | exact HB.out))) : w.heap.size ≤ gb104)); clear HB; have HB := n0_; have BK104 := n1_; have GW104 := n2_; have GE104 := n3_; clear n0_ n1_ n2_ n3_; clear hb hbox hg; have hcz22_0 : w21.cell? ⟨gb104, 0, none⟩ = some (.string (⟨#[]⟩ : ByteArray)) := (blk_cell BK104.out 0).trans rfl; have hcz22_1 : w21.cell? ⟨gb104, 1, none⟩ = some (.string (⟨#[]⟩ : ByteArray)) := (blk_cell BK104.out 1).trans rfl; have hfz22_0 := blk_frozen BK104.out 0; have hfz22_1 := blk_frozen BK104.out 1) | (go_at_call 99; (with_reducible refine (labels_Name.calls ((rd_T89 l0 x12_1).f0) true _ A6.out).mono ?_); rintro e w23 ⟨rfl, hb⟩; have n0_ := Aside0.mk (blk_below (g := gb104) (o := .cells #[.string ((rd_T89 l0 x12_1).f0), .string ((rd_T89 l0 x12_1).f1)] 89 (0, 0)) (by (with_reducible repeat (first | refine blk_drewN ?_ _ | refine blk_drew ?_ | refine blk_alloc ?_ _)); refine blk_put (cs := #[.string ((rd_T89 l0 x12_1).f0), .string (⟨#[]⟩ : ByteArray)]) ?_ 1 _ rfl; (with_reducible repeat (first | refine blk_drewN ?_ _ | refine blk_drew ?_ | refine blk_alloc ?_ _)); refine blk_put (cs := #[.string (⟨#[]⟩ : ByteArray), .string (⟨#[]⟩ : ByteArray)]) ?_ 0 _ rfl; (with_reducible repeat (first | refine blk_drewN ?_ _ | refine blk_drew ?_ | refine blk_alloc ?_ _)); exact BK104.out) hb); have n1_ := Aside0.mk (below_step (by repeat (first | (with_reducible first | exact HB.out | apply below_alloc | apply pw_below_drewN | apply below_drew1 | refine below_set ?_ GE104.out) | exact HB.out)) hb); clear BK104; clear HB; have BK104 := n0_; have HB := n1_; clear n0_ n1_; (try clear hb); (try clear hb2); (try clear hk); (try clear hi); have hcz24_0 : w23.cell? ⟨gb104, 0, none⟩ = some (.string ((rd_T89 l0 x12_1).f0)) := (blk_cell BK104.out 0).trans rfl; have hcz24_1 : w23.cell? ⟨gb104, 1, none⟩ = some (.string ((rd_T89 l0 x12_1).f1)) := (blk_cell BK104.out 1).trans rfl; have hfz24_0 := blk_frozen BK104.out 0; have hfz24_1 := blk_frozen BK104.out 1) | (go_at_call 125; (with_reducible refine (labels_value.calls ((rd_T89 l0 x12_1).f1) t106 _ ?side1 A8.out).mono ?_); (case side1 => first | exact HT.out | exact tabs_below HT.out (by repeat (first | (with_reducible first | exact HB.out | apply below_alloc | apply pw_below_drewN | apply below_drew1 | refine below_set ?_ GE104.out) | exact HB.out))); rintro e w25 ⟨rfl, hb⟩; have n0_ := Aside0.mk (blk_below (g := gb104) (o := .cells #[.string ((rd_T89 l0 x12_1).f0), .string ((rd_T89 l0 x12_1).f1)] 89 (0, 0)) (by (with_reducible repeat (first | refine blk_drewN ?_ _ | refine blk_drew ?_ | refine blk_alloc ?_ _)); exact BK104.out) hb); have n1_ := Aside0.mk (below_step (by repeat (first | (with_reducible first | exact HB.out | apply below_alloc | apply pw_below_drewN | apply below_drew1 | refine below_set ?_ GE104.out) | exact HB.out)) hb); clear BK104; clear HB; have BK104 := n0_; have HB := n1_; clear n0_ n1_; (try clear hb); (try clear hb2); (try clear hk); (try clear hi); have hcz26_0 : w25.cell? ⟨gb104, 0, none⟩ = some (.string ((rd_T89 l0 x12_1).f0)) := (blk_cell BK104.out 0).trans rfl; have hcz26_1 : w25.cell? ⟨gb104, 1, none⟩ = some (.string ((rd_T89 l0 x12_1).f1)) := (blk_cell BK104.out 1).trans rfl; have hfz26_0 := blk_frozen BK104.out 0; have hfz26_1 := blk_frozen BK104.out 1; have p107 : 0 ≤ ((ji11) : Int) := of_decide_eq_true (by first | (with_reducible assumption) | assumption); have q107 : (ji11) < (l0.length : Int) := of_decide_eq_true (by first | (with_reducible assumption) | assumption); obtain ⟨ad107, e107, hx107_0, hx107_1⟩ := at_T89 HR0.out (ji11) p107 q107; obtain rfl : ad103 = ad107 := (by injection e107); replace hx107_0 := (HB.out.cell (World.block_lt_of_cell? w _ hx107_0)).trans hx107_0; replace hx107_1 := (HB.out.cell (World.block_lt_of_cell? w _ hx107_1)).trans hx107_1; replace p107 := eq_true p107; replace q107 := eq_true q107))
                          repeat (go_quiet (first | ((with_reducible refine gate_dst (N := 5) rfl ?_); refine box_event ?hg (N := 5) ?hd (cs := #[.string (⟨#[]⟩ : ByteArray), .string (⟨#[]⟩ : ByteArray)]) (t := 89) ?hr ?_; (case hd => rfl); (case hg => rfl); (case hr => first | (go_simp; done) | (go_simp; rfl)); intro gb104 hg w21 hbox hb; have n0_ := Aside0.mk (below_step (by repeat (first | (with_reducible first | exact HB.out | apply below_alloc | apply pw_below_drewN | apply below_drew1) | exact HB.out)) hb); have n1_ := Aside0.mk (hbox); have n2_ := Aside0.mk ((by rw [hg]; exact (below_size (by repeat (first | (with_reducible first | exact HB.out | apply below_alloc | apply pw_below_drewN | apply below_drew1) | exact HB.out))) : w.heap.size ≤ gb104)); have n3_ := Aside0.mk ((by rw [hg]; exact (below_size (by repeat (first | (with_reducible first | exact HB.out | apply below_alloc | apply pw_below_drewN | apply below_drew1) | exact HB.out))) : w.heap.size ≤ gb104)); clear HB; have HB := n0_; have BK104 := n1_; have GW104 := n2_; have GE104 := n3_; clear n0_ n1_ n2_ n3_; clear hb hbox hg; have hcz22_0 : w21.cell? ⟨gb104, 0, none⟩ = some (.string (⟨#[]⟩ : ByteArray)) := (blk_cell BK104.out 0).trans rfl; have hcz22_1 : w21.cell? ⟨gb104, 1, none⟩ = some (.string (⟨#[]⟩ : ByteArray)) := (blk_cell BK104.out 1).trans rfl; have hfz22_0 := blk_frozen BK104.out 0; have hfz22_1 := blk_frozen BK104.out 1) | (go_at_call 99; (with_reducible refine (labels_Name.calls ((rd_T89 l0 x12_1).f0) true _ A6.out).mono ?_); rintro e w23 ⟨rfl, hb⟩; have n0_ := Aside0.mk (blk_below (g := gb104) (o := .cells #[.string ((rd_T89 l0 x12_1).f0), .string ((rd_T89 l0 x12_1).f1)] 89 (0, 0)) (by (with_reducible repeat (first | refine blk_drewN ?_ _ | refine blk_drew ?_ | refine blk_alloc ?_ _)); refine blk_put (cs := #[.string ((rd_T89 l0 x12_1).f0), .string (⟨#[]⟩ : ByteArray)]) ?_ 1 _ rfl; (with_reducible repeat (first | refine blk_drewN ?_ _ | refine blk_drew ?_ | refine blk_alloc ?_ _)); refine blk_put (cs := #[.string (⟨#[]⟩ : ByteArray), .string (⟨#[]⟩ : ByteArray)]) ?_ 0 _ rfl; (with_reducible repeat (first | refine blk_drewN ?_ _ | refine blk_drew ?_ | refine blk_alloc ?_ _)); exact BK104.out) hb); have n1_ := Aside0.mk (below_step (by repeat (first | (with_reducible first | exact HB.out | apply below_alloc | apply pw_below_drewN | apply below_drew1 | refine below_set ?_ GE104.out) | exact HB.out)) hb); clear BK104; clear HB; have BK104 := n0_; have HB := n1_; clear n0_ n1_; (try clear hb); (try clear hb2); (try clear hk); (try clear hi); have hcz24_0 : w23.cell? ⟨gb104, 0, none⟩ = some (.string ((rd_T89 l0 x12_1).f0)) := (blk_cell BK104.out 0).trans rfl; have hcz24_1 : w23.cell? ⟨gb104, 1, none⟩ = some (.string ((rd_T89 l0 x12_1).f1)) := (blk_cell BK104.out 1).trans rfl; have hfz24_0 := blk_frozen BK104.out 0; have hfz24_1 := blk_frozen BK104.out 1) | (go_at_call 125; (with_reducible refine (labels_value.calls ((rd_T89 l0 x12_1).f1) t106 _ ?side1 A8.out).mono ?_); (case side1 => first | exact HT.out | exact tabs_below HT.out (by repeat (first | (with_reducible first | exact HB.out | apply below_alloc | apply pw_below_drewN | apply below_drew1 | refine below_set ?_ GE104.out) | exact HB.out))); rintro e w25 ⟨rfl, hb⟩; have n0_ := Aside0.mk (blk_below (g := gb104) (o := .cells #[.string ((rd_T89 l0 x12_1).f0), .string ((rd_T89 l0 x12_1).f1)] 89 (0, 0)) (by (with_reducible repeat (first | refine blk_drewN ?_ _ | refine blk_drew ?_ | refine blk_alloc ?_ _)); exact BK104.out) hb); have n1_ := Aside0.mk (below_step (by repeat (first | (with_reducible first | exact HB.out | apply below_alloc | apply pw_below_drewN | apply below_drew1 | refine below_set ?_ GE104.out) | exact HB.out)) hb); clear BK104; clear HB; have BK104 := n0_; have HB := n1_; clear n0_ n1_; (try clear hb); (try clear hb2); (try clear hk); (try clear hi); have hcz26_0 : w25.cell? ⟨gb104, 0, none⟩ = some (.string ((rd_T89 l0 x12_1).f0)) := (blk_cell BK104.out 0).trans rfl; have hcz26_1 : w25.cell? ⟨gb104, 1, none⟩ = some (.string ((rd_T89 l0 x12_1).f1)) := (blk_cell BK104.out 1).trans rfl; have hfz26_0 := blk_frozen BK104.out 0; have hfz26_1 := blk_frozen BK104.out 1; have p107 : 0 ≤ ((ji11) : Int) := of_decide_eq_true (by first | (with_reducible assumption) | assumption); have q107 : (ji11) < (l0.length : Int) := of_decide_eq_true (by first | (with_reducible assumption) | assumption); obtain ⟨ad107, e107, hx107_0, hx107_1⟩ := at_T89 HR0.out (ji11) p107 q107; obtain rfl : ad103 = ad107 := (by injection e107); replace hx107_0 := (HB.out.cell (World.block_lt_of_cell? w _ hx107_0)).trans hx107_0; replace hx107_1 := (HB.out.cell (World.block_lt_of_cell? w _ hx107_1)).trans hx107_1; replace p107 := eq_true p107; replace q107 := eq_true q107)); try go_wp2_with (first | ((with_reducible refine gate_dst (N := 5) rfl ?_); refine box_event ?hg (N := 5) ?hd (cs := #[.string (⟨#[]⟩ : ByteArray), .string (⟨#[]⟩ : ByteArray)]) (t := 89) ?hr ?_; (case hd => rfl); (case hg => rfl); (case hr => first | (go_simp; done) | (go_simp; rfl)); intro gb104 hg w21 hbox hb; have n0_ := Aside0.mk (below_step (by repeat (first | (with_reducible first | exact HB.out | apply below_alloc | apply pw_below_drewN | apply below_drew1) | exact HB.out)) hb); have n1_ := Aside0.mk (hbox); have n2_ := Aside0.mk ((by rw [hg]; exact (below_size (by repeat (first | (with_reducible first | exact HB.out | apply below_alloc | apply pw_below_drewN | apply below_drew1) | exact HB.out))) : w.heap.size ≤ gb104)); have n3_ := Aside0.mk ((by rw [hg]; exact (below_size (by repeat (first | (with_reducible first | exact HB.out | apply below_alloc | apply pw_below_drewN | apply below_drew1) | exact HB.out))) : w.heap.size ≤ gb104)); clear HB; have HB := n0_; have BK104 := n1_; have GW104 := n2_; have GE104 := n3_; clear n0_ n1_ n2_ n3_; clear hb hbox hg; have hcz22_0 : w21.cell? ⟨gb104, 0, none⟩ = some (.string (⟨#[]⟩ : ByteArray)) := (blk_cell BK104.out 0).trans rfl; have hcz22_1 : w21.cell? ⟨gb104, 1, none⟩ = some (.string (⟨#[]⟩ : ByteArray)) := (blk_cell BK104.out 1).trans rfl; have hfz22_0 := blk_frozen BK104.out 0; have hfz22_1 := blk_frozen BK104.out 1) | (go_at_call 99; (with_reducible refine (labels_Name.calls ((rd_T89 l0 x12_1).f0) true _ A6.out).mono ?_); rintro e w23 ⟨rfl, hb⟩; have n0_ := Aside0.mk (blk_below (g := gb104) (o := .cells #[.string ((rd_T89 l0 x12_1).f0), .string ((rd_T89 l0 x12_1).f1)] 89 (0, 0)) (by (with_reducible repeat (first | refine blk_drewN ?_ _ | refine blk_drew ?_ | refine blk_alloc ?_ _)); refine blk_put (cs := #[.string ((rd_T89 l0 x12_1).f0), .string (⟨#[]⟩ : ByteArray)]) ?_ 1 _ rfl; (with_reducible repeat (first | refine blk_drewN ?_ _ | refine blk_drew ?_ | refine blk_alloc ?_ _)); refine blk_put (cs := #[.string (⟨#[]⟩ : ByteArray), .string (⟨#[]⟩ : ByteArray)]) ?_ 0 _ rfl; (with_reducible repeat (first | refine blk_drewN ?_ _ | refine blk_drew ?_ | refine blk_alloc ?_ _)); exact BK104.out) hb); have n1_ := Aside0.mk (below_step (by repeat (first | (with_reducible first | exact HB.out | apply below_alloc | apply pw_below_drewN | apply below_drew1 | refine below_set ?_ GE104.out) | exact HB.out)) hb); clear BK104; clear HB; have BK104 := n0_; have HB := n1_; clear n0_ n1_; (try clear hb); (try clear hb2); (try clear hk); (try clear hi); have hcz24_0 : w23.cell? ⟨gb104, 0, none⟩ = some (.string ((rd_T89 l0 x12_1).f0)) := (blk_cell BK104.out 0).trans rfl; have hcz24_1 : w23.cell? ⟨gb104, 1, none⟩ = some (.string ((rd_T89 l0 x12_1).f1)) := (blk_cell BK104.out 1).trans rfl; have hfz24_0 := blk_frozen BK104.out 0; have hfz24_1 := blk_frozen BK104.out 1) | (go_at_call 125; (with_reducible refine (labels_value.calls ((rd_T89 l0 x12_1).f1) t106 _ ?side1 A8.out).mono ?_); (case side1 => first | exact HT.out | exact tabs_below HT.out (by repeat (first | (with_reducible first | exact HB.out | apply below_alloc | apply pw_below_drewN | apply below_drew1 | refine below_set ?_ GE104.out) | exact HB.out))); rintro e w25 ⟨rfl, hb⟩; have n0_ := Aside0.mk (blk_below (g := gb104) (o := .cells #[.string ((rd_T89 l0 x12_1).f0), .string ((rd_T89 l0 x12_1).f1)] 89 (0, 0)) (by (with_reducible repeat (first | refine blk_drewN ?_ _ | refine blk_drew ?_ | refine blk_alloc ?_ _)); exact BK104.out) hb); have n1_ := Aside0.mk (below_step (by repeat (first | (with_reducible first | exact HB.out | apply below_alloc | apply pw_below_drewN | apply below_drew1 | refine below_set ?_ GE104.out) | exact HB.out)) hb); clear BK104; clear HB; have BK104 := n0_; have HB := n1_; clear n0_ n1_; (try clear hb); (try clear hb2); (try clear hk); (try clear hi); have hcz26_0 : w25.cell? ⟨gb104, 0, none⟩ = some (.string ((rd_T89 l0 x12_1).f0)) := (blk_cell BK104.out 0).trans rfl; have hcz26_1 : w25.cell? ⟨gb104, 1, none⟩ = some (.string ((rd_T89 l0 x12_1).f1)) := (blk_cell BK104.out 1).trans rfl; have hfz26_0 := blk_frozen BK104.out 0; have hfz26_1 := blk_frozen BK104.out 1; have p107 : 0 ≤ ((ji11) : Int) := of_decide_eq_true (by first | (with_reducible assumption) | assumption); have q107 : (ji11) < (l0.length : Int) := of_decide_eq_true (by first | (with_reducible assumption) | assumption); obtain ⟨ad107, e107, hx107_0, hx107_1⟩ := at_T89 HR0.out (ji11) p107 q107; obtain rfl : ad103 = ad107 := (by injection e107); replace hx107_0 := (HB.out.cell (World.block_lt_of_cell? w _ hx107_0)).trans hx107_0; replace hx107_1 := (HB.out.cell (World.block_lt_of_cell? w _ hx107_1)).trans hx107_1; replace p107 := eq_true p107; replace q107 := eq_true q107)))
                          go_ret2
                          exact ⟨by first | rfl | (simp [errW_none, errW_some] <;> rfl) | (simp only [← hji11]; first | rfl | (simp [errW_none, errW_some] <;> rfl)) | (simp [*, errW_none, errW_some] <;> rfl), by repeat (first | (with_reducible first | exact HB.out | apply below_alloc | apply pw_below_drewN | apply below_drew1 | refine below_set ?_ GE104.out) | exact HB.out)⟩
                      · rw [if_neg c13] at H
                        exact absurd H (by simp)
                    · rw [if_neg c12] at H
                      exact absurd H (by simp)
                  · rw [if_neg c10] at H
                    have c10b0 : decide (0 < x12_1) = false := decide_eq_false c10
                    clear c10
                    have H' := Aside0.mk H
                    clear H
                    have p103 : 0 ≤ (x12_1 : Int) := of_decide_eq_true (by first | (with_reducible assumption) | assumption)
                    have q103 : x12_1 < (l0.length : Int) := of_decide_eq_true (by first | (with_reducible assumption) | assumption)
                    obtain ⟨ad103, e103, hx103_0, hx103_1⟩ := at_T89 HR0.out x12_1 p103 q103
                    cases e103
                    replace hx103_0 := (HB.out.cell (World.block_lt_of_cell? w _ hx103_0)).trans hx103_0
                    replace hx103_1 := (HB.out.cell (World.block_lt_of_cell? w _ hx103_1)).trans hx103_1
                    replace p103 := eq_true p103
                    replace q103 := eq_true q103
                    go_wp2_with (first | ((with_reducible refine gate_dst (N := 5) rfl ?_); refine box_event ?hg (N := 5) ?hd (cs := #[.string (⟨#[]⟩ : ByteArray), .string (⟨#[]⟩ : ByteArray)]) (t := 89) ?hr ?_; (case hd => rfl); (case hg => rfl); (case hr => first | (go_simp; done) | (go_simp; rfl)); intro gb104 hg w27 hbox hb; have n0_ := Aside0.mk (below_step (by repeat (first | (with_reducible first | exact HB.out | apply below_alloc | apply pw_below_drewN | apply below_drew1) | exact HB.out)) hb); have n1_ := Aside0.mk (hbox); have n2_ := Aside0.mk ((by rw [hg]; exact (below_size (by repeat (first | (with_reducible first | exact HB.out | apply below_alloc | apply pw_below_drewN | apply below_drew1) | exact HB.out))) : w.heap.size ≤ gb104)); have n3_ := Aside0.mk ((by rw [hg]; exact (below_size (by repeat (first | (with_reducible first | exact HB.out | apply below_alloc | apply pw_below_drewN | apply below_drew1) | exact HB.out))) : w.heap.size ≤ gb104)); clear HB; have HB := n0_; have BK104 := n1_; have GW104 := n2_; have GE104 := n3_; clear n0_ n1_ n2_ n3_; clear hb hbox hg; have hcz28_0 : w27.cell? ⟨gb104, 0, none⟩ = some (.string (⟨#[]⟩ : ByteArray)) := (blk_cell BK104.out 0).trans rfl; have hcz28_1 : w27.cell? ⟨gb104, 1, none⟩ = some (.string (⟨#[]⟩ : ByteArray)) := (blk_cell BK104.out 1).trans rfl; have hfz28_0 := blk_frozen BK104.out 0; have hfz28_1 := blk_frozen BK104.out 1) | (go_at_call 99; (with_reducible refine (labels_Name.calls ((rd_T89 l0 x12_1).f0) true _ A6.out).mono ?_); rintro e w29 ⟨rfl, hb⟩; have n0_ := Aside0.mk (blk_below (g := gb104) (o := .cells #[.string ((rd_T89 l0 x12_1).f0), .string ((rd_T89 l0 x12_1).f1)] 89 (0, 0)) (by (with_reducible repeat (first | refine blk_drewN ?_ _ | refine blk_drew ?_ | refine blk_alloc ?_ _)); refine blk_put (cs := #[.string ((rd_T89 l0 x12_1).f0), .string (⟨#[]⟩ : ByteArray)]) ?_ 1 _ rfl; (with_reducible repeat (first | refine blk_drewN ?_ _ | refine blk_drew ?_ | refine blk_alloc ?_ _)); refine blk_put (cs := #[.string (⟨#[]⟩ : ByteArray), .string (⟨#[]⟩ : ByteArray)]) ?_ 0 _ rfl; (with_reducible repeat (first | refine blk_drewN ?_ _ | refine blk_drew ?_ | refine blk_alloc ?_ _)); exact BK104.out) hb); have n1_ := Aside0.mk (below_step (by repeat (first | (with_reducible first | exact HB.out | apply below_alloc | apply pw_below_drewN | apply below_drew1 | refine below_set ?_ GE104.out) | exact HB.out)) hb); clear BK104; clear HB; have BK104 := n0_; have HB := n1_; clear n0_ n1_; (try clear hb); (try clear hb2); (try clear hk); (try clear hi); have hcz30_0 : w29.cell? ⟨gb104, 0, none⟩ = some (.string ((rd_T89 l0 x12_1).f0)) := (blk_cell BK104.out 0).trans rfl; have hcz30_1 : w29.cell? ⟨gb104, 1, none⟩ = some (.string ((rd_T89 l0 x12_1).f1)) := (blk_cell BK104.out 1).trans rfl; have hfz30_0 := blk_frozen BK104.out 0; have hfz30_1 := blk_frozen BK104.out 1) | (go_at_call 125; (with_reducible refine (labels_value.calls ((rd_T89 l0 x12_1).f1) t106 _ ?side1 A8.out).mono ?_); (case side1 => first | exact HT.out | exact tabs_below HT.out (by repeat (first | (with_reducible first | exact HB.out | apply below_alloc | apply pw_below_drewN | apply below_drew1 | refine below_set ?_ GE104.out) | exact HB.out))); rintro e w31 ⟨rfl, hb⟩; have n0_ := Aside0.mk (blk_below (g := gb104) (o := .cells #[.string ((rd_T89 l0 x12_1).f0), .string ((rd_T89 l0 x12_1).f1)] 89 (0, 0)) (by (with_reducible repeat (first | refine blk_drewN ?_ _ | refine blk_drew ?_ | refine blk_alloc ?_ _)); exact BK104.out) hb); have n1_ := Aside0.mk (below_step (by repeat (first | (with_reducible first | exact HB.out | apply below_alloc | apply pw_below_drewN | apply below_drew1 | refine below_set ?_ GE104.out) | exact HB.out)) hb); clear BK104; clear HB; have BK104 := n0_; have HB := n1_; clear n0_ n1_; (try clear hb); (try clear hb2); (try clear hk); (try clear hi)))
                    repeat (go_quiet (first | ((with_reducible refine gate_dst (N := 5) rfl ?_); refine box_event ?hg (N := 5) ?hd (cs := #[.string (⟨#[]⟩ : ByteArray), .string (⟨#[]⟩ : ByteArray)]) (t := 89) ?hr ?_; (case hd => rfl); (case hg => rfl); (case hr => first | (go_simp; done) | (go_simp; rfl)); intro gb104 hg w27 hbox hb; have n0_ := Aside0.mk (below_step (by repeat (first | (with_reducible first | exact HB.out | apply below_alloc | apply pw_below_drewN | apply below_drew1) | exact HB.out)) hb); have n1_ := Aside0.mk (hbox); have n2_ := Aside0.mk ((by rw [hg]; exact (below_size (by repeat (first | (with_reducible first | exact HB.out | apply below_alloc | apply pw_below_drewN | apply below_drew1) | exact HB.out))) : w.heap.size ≤ gb104)); have n3_ := Aside0.mk ((by rw [hg]; exact (below_size (by repeat (first | (with_reducible first | exact HB.out | apply below_alloc | apply pw_below_drewN | apply below_drew1) | exact HB.out))) : w.heap.size ≤ gb104)); clear HB; have HB := n0_; have BK104 := n1_; have GW104 := n2_; have GE104 := n3_; clear n0_ n1_ n2_ n3_; clear hb hbox hg; have hcz28_0 : w27.cell? ⟨gb104, 0, none⟩ = some (.string (⟨#[]⟩ : ByteArray)) := (blk_cell BK104.out 0).trans rfl; have hcz28_1 : w27.cell? ⟨gb104, 1, none⟩ = some (.string (⟨#[]⟩ : ByteArray)) := (blk_cell BK104.out 1).trans rfl; have hfz28_0 := blk_frozen BK104.out 0; have hfz28_1 := blk_frozen BK104.out 1) | (go_at_call 99; (with_reducible refine (labels_Name.calls ((rd_T89 l0 x12_1).f0) true _ A6.out).mono ?_); rintro e w29 ⟨rfl, hb⟩; have n0_ := Aside0.mk (blk_below (g := gb104) (o := .cells #[.string ((rd_T89 l0 x12_1).f0), .string ((rd_T89 l0 x12_1).f1)] 89 (0, 0)) (by (with_reducible repeat (first | refine blk_drewN ?_ _ | refine blk_drew ?_ | refine blk_alloc ?_ _)); refine blk_put (cs := #[.string ((rd_T89 l0 x12_1).f0), .string (⟨#[]⟩ : ByteArray)]) ?_ 1 _ rfl; (with_reducible repeat (first | refine blk_drewN ?_ _ | refine blk_drew ?_ | refine blk_alloc ?_ _)); refine blk_put (cs := #[.string (⟨#[]⟩ : ByteArray), .string (⟨#[]⟩ : ByteArray)]) ?_ 0 _ rfl; (with_reducible repeat (first | refine blk_drewN ?_ _ | refine blk_drew ?_ | refine blk_alloc ?_ _)); exact BK104.out) hb); have n1_ := Aside0.mk (below_step (by repeat (first | (with_reducible first | exact HB.out | apply below_alloc | apply pw_below_drewN | apply below_drew1 | refine below_set ?_ GE104.out) | exact HB.out)) hb); clear BK104; clear HB; have BK104 := n0_; have HB := n1_; clear n0_ n1_; (try clear hb); (try clear hb2); (try clear hk); (try clear hi); have hcz30_0 : w29.cell? ⟨gb104, 0, none⟩ = some (.string ((rd_T89 l0 x12_1).f0)) := (blk_cell BK104.out 0).trans rfl; have hcz30_1 : w29.cell? ⟨gb104, 1, none⟩ = some (.string ((rd_T89 l0 x12_1).f1)) := (blk_cell BK104.out 1).trans rfl; have hfz30_0 := blk_frozen BK104.out 0; have hfz30_1 := blk_frozen BK104.out 1) | (go_at_call 125; (with_reducible refine (labels_value.calls ((rd_T89 l0 x12_1).f1) t106 _ ?side1 A8.out).mono ?_); (case side1 => first | exact HT.out | exact tabs_below HT.out (by repeat (first | (with_reducible first | exact HB.out | apply below_alloc | apply pw_below_drewN | apply below_drew1 | refine below_set ?_ GE104.out) | exact HB.out))); rintro e w31 ⟨rfl, hb⟩; have n0_ := Aside0.mk (blk_below (g := gb104) (o := .cells #[.string ((rd_T89 l0 x12_1).f0), .string ((rd_T89 l0 x12_1).f1)] 89 (0, 0)) (by (with_reducible repeat (first | refine blk_drewN ?_ _ | refine blk_drew ?_ | refine blk_alloc ?_ _)); exact BK104.out) hb); have n1_ := Aside0.mk (below_step (by repeat (first | (with_reducible first | exact HB.out | apply below_alloc | apply pw_below_drewN | apply below_drew1 | refine below_set ?_ GE104.out) | exact HB.out)) hb); clear BK104; clear HB; have BK104 := n0_; have HB := n1_; clear n0_ n1_; (try clear hb); (try clear hb2); (try clear hk); (try clear hi))); try go_wp2_with (first | ((with_reducible refine gate_dst (N := 5) rfl ?_); refine box_event ?hg (N := 5) ?hd (cs := #[.string (⟨#[]⟩ : ByteArray), .string (⟨#[]⟩ : ByteArray)]) (t := 89) ?hr ?_; (case hd => rfl); (case hg => rfl); (case hr => first | (go_simp; done) | (go_simp; rfl)); intro gb104 hg w27 hbox hb; have n0_ := Aside0.mk (below_step (by repeat (first | (with_reducible first | exact HB.out | apply below_alloc | apply pw_below_drewN | apply below_drew1) | exact HB.out)) hb); have n1_ := Aside0.mk (hbox); have n2_ := Aside0.mk ((by rw [hg]; exact (below_size (by repeat (first | (with_reducible first | exact HB.out | apply below_alloc | apply pw_below_drewN | apply below_drew1) | exact HB.out))) : w.heap.size ≤ gb104)); have n3_ := Aside0.mk ((by rw [hg]; exact (below_size (by repeat (first | (with_reducible first | exact HB.out | apply below_alloc | apply pw_below_drewN | apply below_drew1) | exact HB.out))) : w.heap.size ≤ gb104)); clear HB; have HB := n0_; have BK104 := n1_; have GW104 := n2_; have GE104 := n3_; clear n0_ n1_ n2_ n3_; clear hb hbox hg; have hcz28_0 : w27.cell? ⟨gb104, 0, none⟩ = some (.string (⟨#[]⟩ : ByteArray)) := (blk_cell BK104.out 0).trans rfl; have hcz28_1 : w27.cell? ⟨gb104, 1, none⟩ = some (.string (⟨#[]⟩ : ByteArray)) := (blk_cell BK104.out 1).trans rfl; have hfz28_0 := blk_frozen BK104.out 0; have hfz28_1 := blk_frozen BK104.out 1) | (go_at_call 99; (with_reducible refine (labels_Name.calls ((rd_T89 l0 x12_1).f0) true _ A6.out).mono ?_); rintro e w29 ⟨rfl, hb⟩; have n0_ := Aside0.mk (blk_below (g := gb104) (o := .cells #[.string ((rd_T89 l0 x12_1).f0), .string ((rd_T89 l0 x12_1).f1)] 89 (0, 0)) (by (with_reducible repeat (first | refine blk_drewN ?_ _ | refine blk_drew ?_ | refine blk_alloc ?_ _)); refine blk_put (cs := #[.string ((rd_T89 l0 x12_1).f0), .string (⟨#[]⟩ : ByteArray)]) ?_ 1 _ rfl; (with_reducible repeat (first | refine blk_drewN ?_ _ | refine blk_drew ?_ | refine blk_alloc ?_ _)); refine blk_put (cs := #[.string (⟨#[]⟩ : ByteArray), .string (⟨#[]⟩ : ByteArray)]) ?_ 0 _ rfl; (with_reducible repeat (first | refine blk_drewN ?_ _ | refine blk_drew ?_ | refine blk_alloc ?_ _)); exact BK104.out) hb); have n1_ := Aside0.mk (below_step (by repeat (first | (with_reducible first | exact HB.out | apply below_alloc | apply pw_below_drewN | apply below_drew1 | refine below_set ?_ GE104.out) | exact HB.out)) hb); clear BK104; clear HB; have BK104 := n0_; have HB := n1_; clear n0_ n1_; (try clear hb); (try clear hb2); (try clear hk); (try clear hi); have hcz30_0 : w29.cell? ⟨gb104, 0, none⟩ = some (.string ((rd_T89 l0 x12_1).f0)) := (blk_cell BK104.out 0).trans rfl; have hcz30_1 : w29.cell? ⟨gb104, 1, none⟩ = some (.string ((rd_T89 l0 x12_1).f1)) := (blk_cell BK104.out 1).trans rfl; have hfz30_0 := blk_frozen BK104.out 0; have hfz30_1 := blk_frozen BK104.out 1) | (go_at_call 125; (with_reducible refine (labels_value.calls ((rd_T89 l0 x12_1).f1) t106 _ ?side1 A8.out).mono ?_); (case side1 => first | exact HT.out | exact tabs_below HT.out (by repeat (first | (with_reducible first | exact HB.out | apply below_alloc | apply pw_below_drewN | apply below_drew1 | refine below_set ?_ GE104.out) | exact HB.out))); rintro e w31 ⟨rfl, hb⟩; have n0_ := Aside0.mk (blk_below (g := gb104) (o := .cells #[.string ((rd_T89 l0 x12_1).f0), .string ((rd_T89 l0 x12_1).f1)] 89 (0, 0)) (by (with_reducible repeat (first | refine blk_drewN ?_ _ | refine blk_drew ?_ | refine blk_alloc ?_ _)); exact BK104.out) hb); have n1_ := Aside0.mk (below_step (by repeat (first | (with_reducible first | exact HB.out | apply below_alloc | apply pw_below_drewN | apply below_drew1 | refine below_set ?_ GE104.out) | exact HB.out)) hb); clear BK104; clear HB; have BK104 := n0_; have HB := n1_; clear n0_ n1_; (try clear hb); (try clear hb2); (try clear hk); (try clear hi))))
                    go_roundg k1
                    case measure => have := HK1.out; omega
                    case rel => exact ⟨(wrap64 (x12_1 + 1)), (by first | rfl | (simp; done) | (simp [*]; done)), H', ⟨by have := HK1.out; omega⟩, ⟨by repeat (first | (with_reducible first | exact HB.out | apply below_alloc | apply pw_below_drewN | apply below_drew1 | refine below_set ?_ GE104.out) | exact HB.out)⟩⟩
                · rw [if_neg c9] at H
                  have c9b0 : (t106 == 0) = false := beq_eq_false_iff_ne.mpr c9
                  have c9b1 : (t106 != 0) = true := bne_iff_ne.mpr c9
                  simp only [Option.some.injEq, Prod.mk.injEq] at H
                  obtain ⟨rfl, rfl⟩ := H
                  have p103 : 0 ≤ (x12_1 : Int) := of_decide_eq_true (by first | (with_reducible assumption) | assumption)
                  have q103 : x12_1 < (l0.length : Int) := of_decide_eq_true (by first | (with_reducible assumption) | assumption)
                  obtain ⟨ad103, e103, hx103_0, hx103_1⟩ := at_T89 HR0.out x12_1 p103 q103
                  cases e103
                  replace hx103_0 := (HB.out.cell (World.block_lt_of_cell? w _ hx103_0)).trans hx103_0
                  replace hx103_1 := (HB.out.cell (World.block_lt_of_cell? w _ hx103_1)).trans hx103_1
                  replace p103 := eq_true p103
                  replace q103 := eq_true q103
                  go_wp2_with (first | ((with_reducible refine gate_dst (N := 5) rfl ?_); refine box_event ?hg (N := 5) ?hd (cs := #[.string (⟨#[]⟩ : ByteArray), .string (⟨#[]⟩ : ByteArray)]) (t := 89) ?hr ?_; (case hd => rfl); (case hg => rfl); (case hr => first | (go_simp; done) | (go_simp; rfl)); intro gb104 hg w32 hbox hb; have n0_ := Aside0.mk (below_step (by repeat (first | (with_reducible first | exact HB.out | apply below_alloc | apply pw_below_drewN | apply below_drew1) | exact HB.out)) hb); have n1_ := Aside0.mk (hbox); have n2_ := Aside0.mk ((by rw [hg]; exact (below_size (by repeat (first | (with_reducible first | exact HB.out | apply below_alloc | apply pw_below_drewN | apply below_drew1) | exact HB.out))) : w.heap.size ≤ gb104)); have n3_ := Aside0.mk ((by rw [hg]; exact (below_size (by repeat (first | (with_reducible first | exact HB.out | apply below_alloc | apply pw_below_drewN | apply below_drew1) | exact HB.out))) : w.heap.size ≤ gb104)); clear HB; have HB := n0_; have BK104 := n1_; have GW104 := n2_; have GE104 := n3_; clear n0_ n1_ n2_ n3_; clear hb hbox hg; have hcz33_0 : w32.cell? ⟨gb104, 0, none⟩ = some (.string (⟨#[]⟩ : ByteArray)) := (blk_cell BK104.out 0).trans rfl; have hcz33_1 : w32.cell? ⟨gb104, 1, none⟩ = some (.string (⟨#[]⟩ : ByteArray)) := (blk_cell BK104.out 1).trans rfl; have hfz33_0 := blk_frozen BK104.out 0; have hfz33_1 := blk_frozen BK104.out 1) | (go_at_call 99; (with_reducible refine (labels_Name.calls ((rd_T89 l0 x12_1).f0) true _ A6.out).mono ?_); rintro e w34 ⟨rfl, hb⟩; have n0_ := Aside0.mk (blk_below (g := gb104) (o := .cells #[.string ((rd_T89 l0 x12_1).f0), .string ((rd_T89 l0 x12_1).f1)] 89 (0, 0)) (by (with_reducible repeat (first | refine blk_drewN ?_ _ | refine blk_drew ?_ | refine blk_alloc ?_ _)); refine blk_put (cs := #[.string ((rd_T89 l0 x12_1).f0), .string (⟨#[]⟩ : ByteArray)]) ?_ 1 _ rfl; (with_reducible repeat (first | refine blk_drewN ?_ _ | refine blk_drew ?_ | refine blk_alloc ?_ _)); refine blk_put (cs := #[.string (⟨#[]⟩ : ByteArray), .string (⟨#[]⟩ : ByteArray)]) ?_ 0 _ rfl; (with_reducible repeat (first | refine blk_drewN ?_ _ | refine blk_drew ?_ | refine blk_alloc ?_ _)); exact BK104.out) hb); have n1_ := Aside0.mk (below_step (by repeat (first | (with_reducible first | exact HB.out | apply below_alloc | apply pw_below_drewN | apply below_drew1 | refine below_set ?_ GE104.out) | exact HB.out)) hb); clear BK104; clear HB; have BK104 := n0_; have HB := n1_; clear n0_ n1_; (try clear hb); (try clear hb2); (try clear hk); (try clear hi); have hcz35_0 : w34.cell? ⟨gb104, 0, none⟩ = some (.string ((rd_T89 l0 x12_1).f0)) := (blk_cell BK104.out 0).trans rfl; have hcz35_1 : w34.cell? ⟨gb104, 1, none⟩ = some (.string ((rd_T89 l0 x12_1).f1)) := (blk_cell BK104.out 1).trans rfl; have hfz35_0 := blk_frozen BK104.out 0; have hfz35_1 := blk_frozen BK104.out 1) | (go_at_call 125; (with_reducible refine (labels_value.calls ((rd_T89 l0 x12_1).f1) t106 _ ?side1 A8.out).mono ?_); (case side1 => first | exact HT.out | exact tabs_below HT.out (by repeat (first | (with_reducible first | exact HB.out | apply below_alloc | apply pw_below_drewN | apply below_drew1 | refine below_set ?_ GE104.out) | exact HB.out))); rintro e w36 ⟨rfl, hb⟩; have n0_ := Aside0.mk (blk_below (g := gb104) (o := .cells #[.string ((rd_T89 l0 x12_1).f0), .string ((rd_T89 l0 x12_1).f1)] 89 (0, 0)) (by (with_reducible repeat (first | refine blk_drewN ?_ _ | refine blk_drew ?_ | refine blk_alloc ?_ _)); exact BK104.out) hb); have n1_ := Aside0.mk (below_step (by repeat (first | (with_reducible first | exact HB.out | apply below_alloc | apply pw_below_drewN | apply below_drew1 | refine below_set ?_ GE104.out) | exact HB.out)) hb); clear BK104; clear HB; have BK104 := n0_; have HB := n1_; clear n0_ n1_; (try clear hb); (try clear hb2); (try clear hk); (try clear hi)))
                  repeat (go_quiet (first | ((with_reducible refine gate_dst (N := 5) rfl ?_); refine box_event ?hg (N := 5) ?hd (cs := #[.string (⟨#[]⟩ : ByteArray), .string (⟨#[]⟩ : ByteArray)]) (t := 89) ?hr ?_; (case hd => rfl); (case hg => rfl); (case hr => first | (go_simp; done) | (go_simp; rfl)); intro gb104 hg w32 hbox hb; have n0_ := Aside0.mk (below_step (by repeat (first | (with_reducible first | exact HB.out | apply below_alloc | apply pw_below_drewN | apply below_drew1) | exact HB.out)) hb); have n1_ := Aside0.mk (hbox); have n2_ := Aside0.mk ((by rw [hg]; exact (below_size (by repeat (first | (with_reducible first | exact HB.out | apply below_alloc | apply pw_below_drewN | apply below_drew1) | exact HB.out))) : w.heap.size ≤ gb104)); have n3_ := Aside0.mk ((by rw [hg]; exact (below_size (by repeat (first | (with_reducible first | exact HB.out | apply below_alloc | apply pw_below_drewN | apply below_drew1) | exact HB.out))) : w.heap.size ≤ gb104)); clear HB; have HB := n0_; have BK104 := n1_; have GW104 := n2_; have GE104 := n3_; clear n0_ n1_ n2_ n3_; clear hb hbox hg; have hcz33_0 : w32.cell? ⟨gb104, 0, none⟩ = some (.string (⟨#[]⟩ : ByteArray)) := (blk_cell BK104.out 0).trans rfl; have hcz33_1 : w32.cell? ⟨gb104, 1, none⟩ = some (.string (⟨#[]⟩ : ByteArray)) := (blk_cell BK104.out 1).trans rfl; have hfz33_0 := blk_frozen BK104.out 0; have hfz33_1 := blk_frozen BK104.out 1) | (go_at_call 99; (with_reducible refine (labels_Name.calls ((rd_T89 l0 x12_1).f0) true _ A6.out).mono ?_); rintro e w34 ⟨rfl, hb⟩; have n0_ := Aside0.mk (blk_below (g := gb104) (o := .cells #[.string ((rd_T89 l0 x12_1).f0), .string ((rd_T89 l0 x12_1).f1)] 89 (0, 0)) (by (with_reducible repeat (first | refine blk_drewN ?_ _ | refine blk_drew ?_ | refine blk_alloc ?_ _)); refine blk_put (cs := #[.string ((rd_T89 l0 x12_1).f0), .string (⟨#[]⟩ : ByteArray)]) ?_ 1 _ rfl; (with_reducible repeat (first | refine blk_drewN ?_ _ | refine blk_drew ?_ | refine blk_alloc ?_ _)); refine blk_put (cs := #[.string (⟨#[]⟩ : ByteArray), .string (⟨#[]⟩ : ByteArray)]) ?_ 0 _ rfl; (with_reducible repeat (first | refine blk_drewN ?_ _ | refine blk_drew ?_ | refine blk_alloc ?_ _)); exact BK104.out) hb); have n1_ := Aside0.mk (below_step (by repeat (first | (with_reducible first | exact HB.out | apply below_alloc | apply pw_below_drewN | apply below_drew1 | refine below_set ?_ GE104.out) | exact HB.out)) hb); clear BK104; clear HB; have BK104 := n0_; have HB := n1_; clear n0_ n1_; (try clear hb); (try clear hb2); (try clear hk); (try clear hi); have hcz35_0 : w34.cell? ⟨gb104, 0, none⟩ = some (.string ((rd_T89 l0 x12_1).f0)) := (blk_cell BK104.out 0).trans rfl; have hcz35_1 : w34.cell? ⟨gb104, 1, none⟩ = some (.string ((rd_T89 l0 x12_1).f1)) := (blk_cell BK104.out 1).trans rfl; have hfz35_0 := blk_frozen BK104.out 0; have hfz35_1 := blk_frozen BK104.out 1) | (go_at_call 125; (with_reducible refine (labels_value.calls ((rd_T89 l0 x12_1).f1) t106 _ ?side1 A8.out).mono ?_); (case side1 => first | exact HT.out | exact tabs_below HT.out (by repeat (first | (with_reducible first | exact HB.out | apply below_alloc | apply pw_below_drewN | apply below_drew1 | refine below_set ?_ GE104.out) | exact HB.out))); rintro e w36 ⟨rfl, hb⟩; have n0_ := Aside0.mk (blk_below (g := gb104) (o := .cells #[.string ((rd_T89 l0 x12_1).f0), .string ((rd_T89 l0 x12_1).f1)] 89 (0, 0)) (by (with_reducible repeat (first | refine blk_drewN ?_ _ | refine blk_drew ?_ | refine blk_alloc ?_ _)); exact BK104.out) hb); have n1_ := Aside0.mk (below_step (by repeat (first | (with_reducible first | exact HB.out | apply below_alloc | apply pw_below_drewN | apply below_drew1 | refine below_set ?_ GE104.out) | exact HB.out)) hb); clear BK104; clear HB; have BK104 := n0_; have HB := n1_; clear n0_ n1_; (try clear hb); (try clear hb2); (try clear hk); (try clear hi))); try go_wp2_with (first | ((with_reducible refine gate_dst (N := 5) rfl ?_); refine box_event ?hg (N := 5) ?hd (cs := #[.string (⟨#[]⟩ : ByteArray), .string (⟨#[]⟩ : ByteArray)]) (t := 89) ?hr ?_; (case hd => rfl); (case hg => rfl); (case hr => first | (go_simp; done) | (go_simp; rfl)); intro gb104 hg w32 hbox hb; have n0_ := Aside0.mk (below_step (by repeat (first | (with_reducible first | exact HB.out | apply below_alloc | apply pw_below_drewN | apply below_drew1) | exact HB.out)) hb); have n1_ := Aside0.mk (hbox); have n2_ := Aside0.mk ((by rw [hg]; exact (below_size (by repeat (first | (with_reducible first | exact HB.out | apply below_alloc | apply pw_below_drewN | apply below_drew1) | exact HB.out))) : w.heap.size ≤ gb104)); have n3_ := Aside0.mk ((by rw [hg]; exact (below_size (by repeat (first | (with_reducible first | exact HB.out | apply below_alloc | apply pw_below_drewN | apply below_drew1) | exact HB.out))) : w.heap.size ≤ gb104)); clear HB; have HB := n0_; have BK104 := n1_; have GW104 := n2_; have GE104 := n3_; clear n0_ n1_ n2_ n3_; clear hb hbox hg; have hcz33_0 : w32.cell? ⟨gb104, 0, none⟩ = some (.string (⟨#[]⟩ : ByteArray)) := (blk_cell BK104.out 0).trans rfl; have hcz33_1 : w32.cell? ⟨gb104, 1, none⟩ = some (.string (⟨#[]⟩ : ByteArray)) := (blk_cell BK104.out 1).trans rfl; have hfz33_0 := blk_frozen BK104.out 0; have hfz33_1 := blk_frozen BK104.out 1) | (go_at_call 99; (with_reducible refine (labels_Name.calls ((rd_T89 l0 x12_1).f0) true _ A6.out).mono ?_); rintro e w34 ⟨rfl, hb⟩; have n0_ := Aside0.mk (blk_below (g := gb104) (o := .cells #[.string ((rd_T89 l0 x12_1).f0), .string ((rd_T89 l0 x12_1).f1)] 89 (0, 0)) (by (with_reducible repeat (first | refine blk_drewN ?_ _ | refine blk_drew ?_ | refine blk_alloc ?_ _)); refine blk_put (cs := #[.string ((rd_T89 l0 x12_1).f0), .string (⟨#[]⟩ : ByteArray)]) ?_ 1 _ rfl; (with_reducible repeat (first | refine blk_drewN ?_ _ | refine blk_drew ?_ | refine blk_alloc ?_ _)); refine blk_put (cs := #[.string (⟨#[]⟩ : ByteArray), .string (⟨#[]⟩ : ByteArray)]) ?_ 0 _ rfl; (with_reducible repeat (first | refine blk_drewN ?_ _ | refine blk_drew ?_ | refine blk_alloc ?_ _)); exact BK104.out) hb); have n1_ := Aside0.mk (below_step (by repeat (first | (with_reducible first | exact HB.out | apply below_alloc | apply pw_below_drewN | apply below_drew1 | refine below_set ?_ GE104.out) | exact HB.out)) hb); clear BK104; clear HB; have BK104 := n0_; have HB := n1_; clear n0_ n1_; (try clear hb); (try clear hb2); (try clear hk); (try clear hi); have hcz35_0 : w34.cell? ⟨gb104, 0, none⟩ = some (.string ((rd_T89 l0 x12_1).f0)) := (blk_cell BK104.out 0).trans rfl; have hcz35_1 : w34.cell? ⟨gb104, 1, none⟩ = some (.string ((rd_T89 l0 x12_1).f1)) := (blk_cell BK104.out 1).trans rfl; have hfz35_0 := blk_frozen BK104.out 0; have hfz35_1 := blk_frozen BK104.out 1) | (go_at_call 125; (with_reducible refine (labels_value.calls ((rd_T89 l0 x12_1).f1) t106 _ ?side1 A8.out).mono ?_); (case side1 => first | exact HT.out | exact tabs_below HT.out (by repeat (first | (with_reducible first | exact HB.out | apply below_alloc | apply pw_below_drewN | apply below_drew1 | refine below_set ?_ GE104.out) | exact HB.out))); rintro e w36 ⟨rfl, hb⟩; have n0_ := Aside0.mk (blk_below (g := gb104) (o := .cells #[.string ((rd_T89 l0 x12_1).f0), .string ((rd_T89 l0 x12_1).f1)] 89 (0, 0)) (by (with_reducible repeat (first | refine blk_drewN ?_ _ | refine blk_drew ?_ | refine blk_alloc ?_ _)); exact BK104.out) hb); have n1_ := Aside0.mk (below_step (by repeat (first | (with_reducible first | exact HB.out | apply below_alloc | apply pw_below_drewN | apply below_drew1 | refine below_set ?_ GE104.out) | exact HB.out)) hb); clear BK104; clear HB; have BK104 := n0_; have HB := n1_; clear n0_ n1_; (try clear hb); (try clear hb2); (try clear hk); (try clear hi))))
                  go_ret2
                  exact ⟨by first | rfl | (simp [errW_none, errW_some] <;> rfl) | (simp [*, errW_none, errW_some] <;> rfl), by repeat (first | (with_reducible first | exact HB.out | apply below_alloc | apply pw_below_drewN | apply below_drew1 | refine below_set ?_ GE104.out) | exact HB.out)⟩
              · replace c7 := Bool.eq_false_iff.mpr c7
                subst c7
                have H1 : (some (40, x12_1)) = some (r1, r2) := by rw [if_neg (show ¬ (false = true) by decide)] at H; exact H
                clear H
                have H := H1
                clear H1
                simp only [Option.some.injEq, Prod.mk.injEq] at H
                obtain ⟨rfl, rfl⟩ := H
                have p103 : 0 ≤ (x12_1 : Int) := of_decide_eq_true (by first | (with_reducible assumption) | assumption)
                have q103 : x12_1 < (l0.length : Int) := of_decide_eq_true (by first | (with_reducible assumption) | assumption)
                obtain ⟨ad103, e103, hx103_0, hx103_1⟩ := at_T89 HR0.out x12_1 p103 q103
                cases e103
                replace hx103_0 := (HB.out.cell (World.block_lt_of_cell? w _ hx103_0)).trans hx103_0
                replace hx103_1 := (HB.out.cell (World.block_lt_of_cell? w _ hx103_1)).trans hx103_1
                replace p103 := eq_true p103
                replace q103 := eq_true q103
                go_wp2_with (first | ((with_reducible refine gate_dst (N := 5) rfl ?_); refine box_event ?hg (N := 5) ?hd (cs := #[.string (⟨#[]⟩ : ByteArray), .string (⟨#[]⟩ : ByteArray)]) (t := 89) ?hr ?_; (case hd => rfl); (case hg => rfl); (case hr => first | (go_simp; done) | (go_simp; rfl)); intro gb104 hg w37 hbox hb; have n0_ := Aside0.mk (below_step (by repeat (first | (with_reducible first | exact HB.out | apply below_alloc | apply pw_below_drewN | apply below_drew1) | exact HB.out)) hb); have n1_ := Aside0.mk (hbox); have n2_ := Aside0.mk ((by rw [hg]; exact (below_size (by repeat (first | (with_reducible first | exact HB.out | apply below_alloc | apply pw_below_drewN | apply below_drew1) | exact HB.out))) : w.heap.size ≤ gb104)); have n3_ := Aside0.mk ((by rw [hg]; exact (below_size (by repeat (first | (with_reducible first | exact HB.out | apply below_alloc | apply pw_below_drewN | apply below_drew1) | exact HB.out))) : w.heap.size ≤ gb104)); clear HB; have HB := n0_; have BK104 := n1_; have GW104 := n2_; have GE104 := n3_; clear n0_ n1_ n2_ n3_; clear hb hbox hg; have hcz38_0 : w37.cell? ⟨gb104, 0, none⟩ = some (.string (⟨#[]⟩ : ByteArray)) := (blk_cell BK104.out 0).trans rfl; have hcz38_1 : w37.cell? ⟨gb104, 1, none⟩ = some (.string (⟨#[]⟩ : ByteArray)) := (blk_cell BK104.out 1).trans rfl; have hfz38_0 := blk_frozen BK104.out 0; have hfz38_1 := blk_frozen BK104.out 1) | (go_at_call 99; (with_reducible refine (labels_Name.calls ((rd_T89 l0 x12_1).f0) false _ A6.out).mono ?_); rintro e w39 ⟨rfl, hb⟩; have n0_ := Aside0.mk (blk_below (g := gb104) (o := .cells #[.string ((rd_T89 l0 x12_1).f0), .string ((rd_T89 l0 x12_1).f1)] 89 (0, 0)) (by (with_reducible repeat (first | refine blk_drewN ?_ _ | refine blk_drew ?_ | refine blk_alloc ?_ _)); refine blk_put (cs := #[.string ((rd_T89 l0 x12_1).f0), .string (⟨#[]⟩ : ByteArray)]) ?_ 1 _ rfl; (with_reducible repeat (first | refine blk_drewN ?_ _ | refine blk_drew ?_ | refine blk_alloc ?_ _)); refine blk_put (cs := #[.string (⟨#[]⟩ : ByteArray), .string (⟨#[]⟩ : ByteArray)]) ?_ 0 _ rfl; (with_reducible repeat (first | refine blk_drewN ?_ _ | refine blk_drew ?_ | refine blk_alloc ?_ _)); exact BK104.out) hb); have n1_ := Aside0.mk (below_step (by repeat (first | (with_reducible first | exact HB.out | apply below_alloc | apply pw_below_drewN | apply below_drew1 | refine below_set ?_ GE104.out) | exact HB.out)) hb); clear BK104; clear HB; have BK104 := n0_; have HB := n1_; clear n0_ n1_; (try clear hb); (try clear hb2); (try clear hk); (try clear hi)))
                repeat (go_quiet (first | ((with_reducible refine gate_dst (N := 5) rfl ?_); refine box_event ?hg (N := 5) ?hd (cs := #[.string (⟨#[]⟩ : ByteArray), .string (⟨#[]⟩ : ByteArray)]) (t := 89) ?hr ?_; (case hd => rfl); (case hg => rfl); (case hr => first | (go_simp; done) | (go_simp; rfl)); intro gb104 hg w37 hbox hb; have n0_ := Aside0.mk (below_step (by repeat (first | (with_reducible first | exact HB.out | apply below_alloc | apply pw_below_drewN | apply below_drew1) | exact HB.out)) hb); have n1_ := Aside0.mk (hbox); have n2_ := Aside0.mk ((by rw [hg]; exact (below_size (by repeat (first | (with_reducible first | exact HB.out | apply below_alloc | apply pw_below_drewN | apply below_drew1) | exact HB.out))) : w.heap.size ≤ gb104)); have n3_ := Aside0.mk ((by rw [hg]; exact (below_size (by repeat (first | (with_reducible first | exact HB.out | apply below_alloc | apply pw_below_drewN | apply below_drew1) | exact HB.out))) : w.heap.size ≤ gb104)); clear HB; have HB := n0_; have BK104 := n1_; have GW104 := n2_; have GE104 := n3_; clear n0_ n1_ n2_ n3_; clear hb hbox hg; have hcz38_0 : w37.cell? ⟨gb104, 0, none⟩ = some (.string (⟨#[]⟩ : ByteArray)) := (blk_cell BK104.out 0).trans rfl; have hcz38_1 : w37.cell? ⟨gb104, 1, none⟩ = some (.string (⟨#[]⟩ : ByteArray)) := (blk_cell BK104.out 1).trans rfl; have hfz38_0 := blk_frozen BK104.out 0; have hfz38_1 := blk_frozen BK104.out 1) | (go_at_call 99; (with_reducible refine (labels_Name.calls ((rd_T89 l0 x12_1).f0) false _ A6.out).mono ?_); rintro e w39 ⟨rfl, hb⟩; have n0_ := Aside0.mk (blk_below (g := gb104) (o := .cells #[.string ((rd_T89 l0 x12_1).f0), .string ((rd_T89 l0 x12_1).f1)] 89 (0, 0)) (by (with_reducible repeat (first | refine blk_drewN ?_ _ | refine blk_drew ?_ | refine blk_alloc ?_ _)); refine blk_put (cs := #[.string ((rd_T89 l0 x12_1).f0), .string (⟨#[]⟩ : ByteArray)]) ?_ 1 _ rfl; (with_reducible repeat (first | refine blk_drewN ?_ _ | refine blk_drew ?_ | refine blk_alloc ?_ _)); refine blk_put (cs := #[.string (⟨#[]⟩ : ByteArray), .string (⟨#[]⟩ : ByteArray)]) ?_ 0 _ rfl; (with_reducible repeat (first | refine blk_drewN ?_ _ | refine blk_drew ?_ | refine blk_alloc ?_ _)); exact BK104.out) hb); have n1_ := Aside0.mk (below_step (by repeat (first | (with_reducible first | exact HB.out | apply below_alloc | apply pw_below_drewN | apply below_drew1 | refine below_set ?_ GE104.out) | exact HB.out)) hb); clear BK104; clear HB; have BK104 := n0_; have HB := n1_; clear n0_ n1_; (try clear hb); (try clear hb2); (try clear hk); (try clear hi))); try go_wp2_with (first | ((with_reducible refine gate_dst (N := 5) rfl ?_); refine box_event ?hg (N := 5) ?hd (cs := #[.string (⟨#[]⟩ : ByteArray), .string (⟨#[]⟩ : ByteArray)]) (t := 89) ?hr ?_; (case hd => rfl); (case hg => rfl); (case hr => first | (go_simp; done) | (go_simp; rfl)); intro gb104 hg w37 hbox hb; have n0_ := Aside0.mk (below_step (by repeat (first | (with_reducible first | exact HB.out | apply below_alloc | apply pw_below_drewN | apply below_drew1) | exact HB.out)) hb); have n1_ := Aside0.mk (hbox); have n2_ := Aside0.mk ((by rw [hg]; exact (below_size (by repeat (first | (with_reducible first | exact HB.out | apply below_alloc | apply pw_below_drewN | apply below_drew1) | exact HB.out))) : w.heap.size ≤ gb104)); have n3_ := Aside0.mk ((by rw [hg]; exact (below_size (by repeat (first | (with_reducible first | exact HB.out | apply below_alloc | apply pw_below_drewN | apply below_drew1) | exact HB.out))) : w.heap.size ≤ gb104)); clear HB; have HB := n0_; have BK104 := n1_; have GW104 := n2_; have GE104 := n3_; clear n0_ n1_ n2_ n3_; clear hb hbox hg; have hcz38_0 : w37.cell? ⟨gb104, 0, none⟩ = some (.string (⟨#[]⟩ : ByteArray)) := (blk_cell BK104.out 0).trans rfl; have hcz38_1 : w37.cell? ⟨gb104, 1, none⟩ = some (.string (⟨#[]⟩ : ByteArray)) := (blk_cell BK104.out 1).trans rfl; have hfz38_0 := blk_frozen BK104.out 0; have hfz38_1 := blk_frozen BK104.out 1) | (go_at_call 99; (with_reducible refine (labels_Name.calls ((rd_T89 l0 x12_1).f0) false _ A6.out).mono ?_); rintro e w39 ⟨rfl, hb⟩; have n0_ := Aside0.mk (blk_below (g := gb104) (o := .cells #[.string ((rd_T89 l0 x12_1).f0), .string ((rd_T89 l0 x12_1).f1)] 89 (0, 0)) (by (with_reducible repeat (first | refine blk_drewN ?_ _ | refine blk_drew ?_ | refine blk_alloc ?_ _)); refine blk_put (cs := #[.string ((rd_T89 l0 x12_1).f0), .string (⟨#[]⟩ : ByteArray)]) ?_ 1 _ rfl; (with_reducible repeat (first | refine blk_drewN ?_ _ | refine blk_drew ?_ | refine blk_alloc ?_ _)); refine blk_put (cs := #[.string (⟨#[]⟩ : ByteArray), .string (⟨#[]⟩ : ByteArray)]) ?_ 0 _ rfl; (with_reducible repeat (first | refine blk_drewN ?_ _ | refine blk_drew ?_ | refine blk_alloc ?_ _)); exact BK104.out) hb); have n1_ := Aside0.mk (below_step (by repeat (first | (with_reducible first | exact HB.out | apply below_alloc | apply pw_below_drewN | apply below_drew1 | refine below_set ?_ GE104.out) | exact HB.out)) hb); clear BK104; clear HB; have BK104 := n0_; have HB := n1_; clear n0_ n1_; (try clear hb); (try clear hb2); (try clear hk); (try clear hi))))
                go_ret2
                exact ⟨by first | rfl | (simp [errW_none, errW_some] <;> rfl) | (simp [*, errW_none, errW_some] <;> rfl), by repeat (first | (with_reducible first | exact HB.out | apply below_alloc | apply pw_below_drewN | apply below_drew1 | refine below_set ?_ GE104.out) | exact HB.out)⟩
            · rw [if_neg c5] at H
              exact absurd H (by simp)
          · rw [if_neg c4] at H
            exact absurd H (by simp)
        · rw [if_neg c3] at H
          have c3b0 : decide (x12_1 < (l0.length : Int)) = false := decide_eq_false c3
          clear c3
          simp only [Option.some.injEq, Prod.mk.injEq] at H
          obtain ⟨rfl, rfl⟩ := H
          go_wp2
          repeat (go_quiet (fail); try go_wp2)
          go_ret2
          exact ⟨by first | rfl | (simp [errW_none, errW_some] <;> rfl) | (simp [*, errW_none, errW_some] <;> rfl), by repeat (first | (with_reducible first | exact HB.out | apply below_alloc | apply pw_below_drewN | apply below_drew1) | exact HB.out)⟩

def labels_right.f (k : Nat) (l0 : List (S89)) : Option (Int) := (labels_Right.f k l0).bind fun bt108 => (some bt108.1)
set_option maxHeartbeats 8000000 in
set_option maxRecDepth 100000 in
theorem labels_right.calls (k : Nat) (A0 : Option Addr) (c0 : Nat) (l0 : List (S89)) (r : Int) (w : World) (hr0 : Kd.C k89 w A0 l0.length l0) (hc0 : l0.length ≤ c0) (hT : Tabs w) (h : labels_right.f k l0 = some r) :
    Calls Tryz.prog 142 #[.slice A0 l0.length c0] w fun e w' => e = .returned (.int .i64 r) ∧ Below w.heap.size w w' := by
  have HR0 := Aside0.mk hr0
  have HC0 := Aside0.mk hc0
  clear hr0 hc0
  have HT := Aside0.mk hT
  clear hT
  have HB := Aside0.mk (Below.refl w.heap.size w)
  have H : ((labels_Right.f k l0).bind fun bt108 => (some bt108.1)) = some r := h
  clear h
  replace H := Option.bind_eq_some_iff.mp H
  obtain ⟨⟨t108, t109⟩, A20, H⟩ := H
  replace H : (some t108) = some r := H
  have A2 := Aside0.mk A20
  clear A20
  obtain rfl := Option.some.inj H
  go_enter Tryz.func142, Tryz.ntmps142
  go_wp2_with (first | ((with_reducible refine gate_callee (f := 73) rfl ?_); refine goesL_ (some 7) rfl rfl Tryz.func73 (by kernel_rfl) rfl #[.slice A0 l0.length c0] rfl (by (try simp only [List.map_toArray, List.map_cons, List.map_nil]); first | done | rfl | (simp only [List.length_drop, List.length_take]; rfl)) ?_; (with_reducible refine (labels_Right.calls k _ _ l0 t108 t109 _ ?side1 ?side2 ?side3 A2.out).mono ?_); (case side1 => repeat (first | exact HR0.out | (with_reducible refine Kd.C_alloc ?_ _) | (with_reducible refine Kd.C_drewN ?_ _) | (with_reducible refine Kd.C_drew ?_))); (case side2 => exact HC0.out); (case side3 => first | exact HT.out | exact tabs_below HT.out (by repeat (first | (with_reducible first | exact HB.out | apply below_alloc | apply pw_below_drewN | apply below_drew1) | exact HB.out))); rintro e w3 ⟨rfl, hb⟩; refine ⟨_, rfl, ?_⟩; have n0_ := Aside0.mk (below_step (by repeat (first | (with_reducible first | exact HB.out | apply below_alloc | apply pw_below_drewN | apply below_drew1) | exact HB.out)) hb); clear HB; have HB := n0_; clear n0_; (try clear hb); (try clear hb2); (try clear hk); (try clear hi)))
  go_ret
  exact ⟨by first | rfl | (simp [errW_none, errW_some] <;> rfl) | (simp [*, errW_none, errW_some] <;> rfl), by repeat (first | (with_reducible first | exact HB.out | apply below_alloc | apply pw_below_drewN | apply below_drew1) | exact HB.out)⟩

def labels_Keep.f (k : Nat) (l0 : List (S89)) (l1 : List ByteArray) : Option ((List (S89)) × Int) := (labels_right.f k l0).bind fun t110 => (if t110 = 0 then ((labels_pick.f k l0 true l1).bind fun t111 => (some (t111, 0))) else (some (([] : List (S89)), t110)))
set_option maxHeartbeats 8000000 in
set_option maxRecDepth 100000 in
theorem labels_Keep.calls (k : Nat) (A0 : Option Addr) (c0 : Nat) (l0 : List (S89)) (A1 : Option Addr) (c1 : Nat) (l1 : List ByteArray) (r1 : List (S89)) (r2 : Int) (w : World) (hr0 : Kd.C k89 w A0 l0.length l0) (hc0 : l0.length ≤ c0) (hr1 : Kd.C Kd.string w A1 l1.length l1) (hc1 : l1.length ≤ c1) (hT : Tabs w) (h : labels_Keep.f k l0 l1 = some (r1, r2)) :
    Calls Tryz.prog 107 #[.slice A0 l0.length c0, .slice A1 l1.length c1] w fun e w' => ∃ v0_ : Value, e = .returned (.tuple #[v0_, .int .i64 r2]) ∧ Kd.R k89 89 w' w.heap.size (fun _ => True) v0_ r1 ∧ Below w.heap.size w w' := by
  have HR0 := Aside0.mk hr0
  have HC0 := Aside0.mk hc0
  clear hr0 hc0
  have HR1 := Aside0.mk hr1
  have HC1 := Aside0.mk hc1
  clear hr1 hc1
  have HT := Aside0.mk hT
  clear hT
  have HB := Aside0.mk (Below.refl w.heap.size w)
  have H : ((labels_right.f k l0).bind fun t110 => (if t110 = 0 then ((labels_pick.f k l0 true l1).bind fun t111 => (some (t111, 0))) else (some (([] : List (S89)), t110)))) = some (r1, r2) := h
  clear h
  replace H := Option.bind_eq_some_iff.mp H
  obtain ⟨t110, A30, H⟩ := H
  replace H : (if t110 = 0 then ((labels_pick.f k l0 true l1).bind fun t111 => (some (t111, 0))) else (some (([] : List (S89)), t110))) = some (r1, r2) := H
  have A3 := Aside0.mk A30
  clear A30
  by_cases c4 : t110 = 0
  · rw [if_pos c4] at H
    have c4b0 : (t110 == 0) = true := beq_iff_eq.mpr c4
    have c4b1 : (t110 != 0) = false := bne_eq_false_iff_eq.mpr c4
    clear c4
    replace H := Option.bind_eq_some_iff.mp H
    obtain ⟨t111, A50, H⟩ := H
    replace H : (some (t111, 0)) = some (r1, r2) := H
    have A5 := Aside0.mk A50
    clear A50
    simp only [Option.some.injEq, Prod.mk.injEq] at H
    obtain ⟨rfl, rfl⟩ := H
    go_enter Tryz.func107, Tryz.ntmps107
    go_wp2_with (first | ((with_reducible refine gate_callee (f := 142) rfl ?_); refine goesL_ (some 8) rfl rfl Tryz.func142 (by kernel_rfl) rfl #[.slice A0 l0.length c0] rfl (by (try simp only [List.map_toArray, List.map_cons, List.map_nil]); first | done | rfl | (simp only [List.length_drop, List.length_take]; rfl)) ?_; (with_reducible refine (labels_right.calls k _ _ l0 t110 _ ?side1 ?side2 ?side3 A3.out).mono ?_); (case side1 => repeat (first | exact HR0.out | (with_reducible refine Kd.C_alloc ?_ _) | (with_reducible refine Kd.C_drewN ?_ _) | (with_reducible refine Kd.C_drew ?_))); (case side2 => exact HC0.out); (case side3 => first | exact HT.out | exact tabs_below HT.out (by repeat (first | (with_reducible first | exact HB.out | apply below_alloc | apply pw_below_drewN | apply below_drew1) | exact HB.out))); rintro e w6 ⟨rfl, hb⟩; refine ⟨_, rfl, ?_⟩; have n0_ := Aside0.mk (below_step (by repeat (first | (with_reducible first | exact HB.out | apply below_alloc | apply pw_below_drewN | apply below_drew1) | exact HB.out)) hb); clear HB; have HB := n0_; clear n0_; (try clear hb); (try clear hb2); (try clear hk); (try clear hi)) | ((with_reducible refine gate_callee (f := 151) rfl ?_); refine goesL_ (some 14) rfl rfl Tryz.func151 (by kernel_rfl) rfl #[.slice A0 l0.length c0, .bool true, .slice A1 l1.length c1] rfl (by (try simp only [List.map_toArray, List.map_cons, List.map_nil]); first | done | rfl | (simp only [List.length_drop, List.length_take]; rfl)) ?_; (with_reducible refine (labels_pick.calls k _ _ l0 true _ _ l1 t111 _ ?side1 ?side2 ?side3 ?side4 A5.out).mono ?_); (case side1 => repeat (first | exact (Kd.C_below HR0.out HB.out) | (with_reducible refine Kd.C_alloc ?_ _) | (with_reducible refine Kd.C_drewN ?_ _) | (with_reducible refine Kd.C_drew ?_))); (case side2 => exact HC0.out); (case side3 => repeat (first | exact (Kd.C_below HR1.out HB.out) | (with_reducible refine Kd.C_alloc ?_ _) | (with_reducible refine Kd.C_drewN ?_ _) | (with_reducible refine Kd.C_drew ?_))); (case side4 => exact HC1.out); rintro e w7 ⟨v112, rfl, ho0, hb⟩; refine ⟨_, rfl, ?_⟩; have n0_ := Aside0.mk (Kd.R_lower ho0 (below_size (by repeat (first | (with_reducible first | exact HB.out | apply below_alloc | apply pw_below_drewN | apply below_drew1) | exact HB.out)))); have n1_ := Aside0.mk (below_step (by repeat (first | (with_reducible first | exact HB.out | apply below_alloc | apply pw_below_drewN | apply below_drew1) | exact HB.out)) hb); clear HB; have HO113 := n0_; have HB := n1_; clear n0_ n1_; (try clear hb); (try clear hb2); (try clear hk); (try clear hi); (try clear ho0)))
    go_ret2
    exact ⟨_, by first | rfl | (simp [errW_none, errW_some] <;> rfl) | (simp [*, errW_none, errW_some] <;> rfl), by (with_reducible repeat (first | apply Kd.R_alloc | apply Kd.R_drewN | apply Kd.R_drew)); exact HO113.out, by repeat (first | (with_reducible first | exact HB.out | apply below_alloc | apply pw_below_drewN | apply below_drew1) | exact HB.out)⟩
  · rw [if_neg c4] at H
    have c4b0 : (t110 == 0) = false := beq_eq_false_iff_ne.mpr c4
    have c4b1 : (t110 != 0) = true := bne_iff_ne.mpr c4
    simp only [Option.some.injEq, Prod.mk.injEq] at H
    obtain ⟨rfl, rfl⟩ := H
    go_enter Tryz.func107, Tryz.ntmps107
    go_wp2_with (first | ((with_reducible refine gate_callee (f := 142) rfl ?_); refine goesL_ (some 8) rfl rfl Tryz.func142 (by kernel_rfl) rfl #[.slice A0 l0.length c0] rfl (by (try simp only [List.map_toArray, List.map_cons, List.map_nil]); first | done | rfl | (simp only [List.length_drop, List.length_take]; rfl)) ?_; (with_reducible refine (labels_right.calls k _ _ l0 t110 _ ?side1 ?side2 ?side3 A3.out).mono ?_); (case side1 => repeat (first | exact HR0.out | (with_reducible refine Kd.C_alloc ?_ _) | (with_reducible refine Kd.C_drewN ?_ _) | (with_reducible refine Kd.C_drew ?_))); (case side2 => exact HC0.out); (case side3 => first | exact HT.out | exact tabs_below HT.out (by repeat (first | (with_reducible first | exact HB.out | apply below_alloc | apply pw_below_drewN | apply below_drew1) | exact HB.out))); rintro e w8 ⟨rfl, hb⟩; refine ⟨_, rfl, ?_⟩; have n0_ := Aside0.mk (below_step (by repeat (first | (with_reducible first | exact HB.out | apply below_alloc | apply pw_below_drewN | apply below_drew1) | exact HB.out)) hb); clear HB; have HB := n0_; clear n0_; (try clear hb); (try clear hb2); (try clear hk); (try clear hi)))
    go_ret2
    exact ⟨_, by first | rfl | (simp [errW_none, errW_some] <;> rfl) | (simp [*, errW_none, errW_some] <;> rfl), by first | exact Kd.R_nil _ _ _ _ _ | exact Kd.N_nil _ _ _ _ _ | exact Kd.V_nil _ _ _ _ _ | exact Kd.Q_nil _ _ _ _ _ | exact Kd.S_nil _ _ _ _ _, by repeat (first | (with_reducible first | exact HB.out | apply below_alloc | apply pw_below_drewN | apply below_drew1) | exact HB.out)⟩

end Go.Proofs.YtoncpeadbhgmaaaGreatDoor.G

namespace Go.Proofs.YtoncpeadbhgmaaaGreatDoor.G
open Go.RowKit Go.Proofs.YtoncpeadbhgmaaaGreatDoorW.PrintWords Go.Proofs.YtoncpeadbhgmaaaGreatDoorW.PrintLast Go.Proofs.YtoncpeadbhgmaaaGreatDoorW.PrintMore
attribute [local go_sem] max2_int min2_int max_two min_two max_three min_three max_four min_four   -- for this text's walks alone
set_option linter.unusedVariables false
set_option linter.unusedSimpArgs false

def labels_Put.l0 : Nat → List Int → List (S89) → Int → Int → Option (List Int × Int)
  | 0, _, _, _, _ => none
  | k + 1, x7, x20, x21, x22 => if x22 < x21 then (if 0 ≤ x22 then (if x22 < (x20.length : Int) then ((vint_PutText.f k x7 ((rd_T89 x20 x22).f0)).bind fun t146 => ((vint_PutText.f k t146 ((rd_T89 x20 x22).f1)).bind fun t149 => (labels_Put.l0 k t149 x20 x21 (wrap64 (x22 + 1))))) else (none)) else (none)) else (some (x7, 0))
def labels_Put.f (k : Nat) (l0 : List Int) (l1 : List (S89)) : Option (List Int × Int) := (labels_right.f k l1).bind fun t140 => (if t140 = 0 then ((vint_PutU.f k l0 (IntKind.u64.wrap ((l1.length : Int)))).bind fun t141 => (labels_Put.l0 k t141 l1 (l1.length : Int) 0)) else (some (([] : List Int), t140)))
def labels_Put.T8 : Bool × List (List Nat × List Nat) := (true, [([], []), ([], []), ([1], [1]), ([0, 2], [0, 2]), ([], []), ([4], [4]), ([3, 5, 3], [3, 5]), ([6, 6, 0, 1, 2, 3, 4, 5, 6], [0, 6])])
def labels_Put.B8 : List Nat := [0, 0, 2, 7, 0, 16, 63, 127]
theorem labels_Put.tab8 : rtab .any (opsOf Tryz.f86 8) = labels_Put.T8 := by kernel_rfl
theorem labels_Put.bits8 : waitsOk labels_Put.T8.2 labels_Put.B8 = true := by kernel_rfl
set_option maxHeartbeats 8000000 in
set_option maxRecDepth 100000 in
theorem labels_Put.calls (k : Nat) (A0 : Option Addr) (c0 : Nat) (l0 : List Int) (A1 : Option Addr) (c1 : Nat) (l1 : List (S89)) (r1 : List Int) (r2 : Int) (w : World) (hr0 : Kd.C (Kd.int .u8) w A0 l0.length l0) (hc0 : l0.length ≤ c0) (hr1 : Kd.C k89 w A1 l1.length l1) (hc1 : l1.length ≤ c1) (hT : Tabs w) (h : labels_Put.f k l0 l1 = some (r1, r2)) :
    Calls Tryz.prog 86 #[.slice A0 l0.length c0, .slice A1 l1.length c1] w fun e w' => ∃ v0_ : Value, e = .returned (.tuple #[v0_, .int .i64 r2]) ∧ Kd.R (Kd.int .u8) 5 w' w.heap.size (fun _ => True) v0_ r1 ∧ Below w.heap.size w w' := by
  have hu89 := Tryz.underlying89
  have HR0 := Aside0.mk hr0
  have HC0 := Aside0.mk hc0
  clear hr0 hc0
  have HR1 := Aside0.mk hr1
  have HC1 := Aside0.mk hc1
  clear hr1 hc1
  have HT := Aside0.mk hT
  clear hT
  have HB := Aside0.mk (Below.refl w.heap.size w)
  have H : ((labels_right.f k l1).bind fun t140 => (if t140 = 0 then ((vint_PutU.f k l0 (IntKind.u64.wrap ((l1.length : Int)))).bind fun t141 => (labels_Put.l0 k t141 l1 (l1.length : Int) 0)) else (some (([] : List Int), t140)))) = some (r1, r2) := h
  clear h
  replace H := Option.bind_eq_some_iff.mp H
  obtain ⟨t140, A30, H⟩ := H
  replace H : (if t140 = 0 then ((vint_PutU.f k l0 (IntKind.u64.wrap ((l1.length : Int)))).bind fun t141 => (labels_Put.l0 k t141 l1 (l1.length : Int) 0)) else (some (([] : List Int), t140))) = some (r1, r2) := H
  have A3 := Aside0.mk A30
  clear A30
  by_cases c4 : t140 = 0
  · rw [if_pos c4] at H
    have c4b0 : (t140 == 0) = true := beq_iff_eq.mpr c4
    have c4b1 : (t140 != 0) = false := bne_eq_false_iff_eq.mpr c4
    clear c4
    replace H := Option.bind_eq_some_iff.mp H
    obtain ⟨t141, A50, H⟩ := H
    replace H : (labels_Put.l0 k t141 l1 (l1.length : Int) 0) = some (r1, r2) := H
    have A5 := Aside0.mk A50
    clear A50
    have H' := Aside0.mk H
    clear H
    go_enter Tryz.func86, Tryz.ntmps86
    go_wp2_with (first | ((with_reducible refine gate_callee (f := 142) rfl ?_); refine goesL_ (some 11) rfl rfl Tryz.func142 (by kernel_rfl) rfl #[.slice A1 l1.length c1] rfl (by (try simp only [List.map_toArray, List.map_cons, List.map_nil]); first | done | rfl | (simp only [List.length_drop, List.length_take]; rfl)) ?_; (with_reducible refine (labels_right.calls k _ _ l1 t140 _ ?side1 ?side2 ?side3 A3.out).mono ?_); (case side1 => repeat (first | exact HR1.out | (with_reducible refine Kd.C_alloc ?_ _) | (with_reducible refine Kd.C_drewN ?_ _) | (with_reducible refine Kd.C_drew ?_))); (case side2 => exact HC1.out); (case side3 => first | exact HT.out | exact tabs_below HT.out (by repeat (first | (with_reducible first | exact HB.out | apply below_alloc | apply pw_below_drewN | apply below_drew1) | exact HB.out))); rintro e w6 ⟨rfl, hb⟩; refine ⟨_, rfl, ?_⟩; have n0_ := Aside0.mk (below_step (by repeat (first | (with_reducible first | exact HB.out | apply below_alloc | apply pw_below_drewN | apply below_drew1) | exact HB.out)) hb); clear HB; have HB := n0_; clear n0_; (try clear hb); (try clear hb2); (try clear hk); (try clear hi)) | ((with_reducible refine gate_callee (f := 143) rfl ?_); refine goesL_ (some 19) rfl rfl Tryz.func143 (by kernel_rfl) rfl #[.slice A0 l0.length c0, .int .u64 (IntKind.u64.wrap ((l1.length : Int)))] rfl (by (try simp only [List.map_toArray, List.map_cons, List.map_nil]); first | done | rfl | (simp only [List.length_drop, List.length_take]; rfl)) ?_; (with_reducible refine (vint_PutU.calls k _ _ l0 (IntKind.u64.wrap ((l1.length : Int))) t141 _ ?side1 ?side2 A5.out).mono ?_); (case side1 => repeat (first | exact (Kd.C_below HR0.out HB.out) | (with_reducible refine Kd.C_alloc ?_ _) | (with_reducible refine Kd.C_drewN ?_ _) | (with_reducible refine Kd.C_drew ?_))); (case side2 => exact HC0.out); rintro e w7 ⟨v142, rfl, ho0, hb⟩; refine ⟨_, rfl, ?_⟩; have n0_ := Aside0.mk (Kd.R_lower ho0 (below_size (by repeat (first | (with_reducible first | exact HB.out | apply below_alloc | apply pw_below_drewN | apply below_drew1) | exact HB.out)))); have n1_ := Aside0.mk (below_step (by repeat (first | (with_reducible first | exact HB.out | apply below_alloc | apply pw_below_drewN | apply below_drew1) | exact HB.out)) hb); clear HB; have HO143 := n0_; have HB := n1_; clear n0_ n1_; (try clear hb); (try clear hb2); (try clear hk); (try clear hi); (try clear ho0)))
    go_loopg [7, 22] k (fun kq v7 v22 w' => ∃ (x7_1 : List Int) (x22_1 : Int), v22 = .int .i64 x22_1 ∧ Aside0 (labels_Put.l0 kq x7_1 l1 (l1.length : Int) x22_1 = some (r1, r2)) ∧ Aside0 (kq ≤ k) ∧ Aside0 (Kd.R (Kd.int .u8) 5 w' w.heap.size (fun _ => True) v7 x7_1) ∧ Aside0 (Below w.heap.size w w'))
    case atStart => exact ⟨(t141), (0), (by first | rfl | (simp; done) | (simp [*]; done)), H', ⟨Nat.le_refl _⟩, ⟨by (with_reducible repeat (first | apply Kd.R_alloc | apply Kd.R_drewN | apply Kd.R_drew)); exact HO143.out⟩, ⟨by repeat (first | (with_reducible first | exact HB.out | apply below_alloc | apply pw_below_drewN | apply below_drew1) | exact HB.out)⟩⟩
    case round =>
      clear H'
      try clear c1
      try clear p2
      try clear c4
      try clear c4b0
      try clear c4b1
      obtain ⟨x7_1, x22_1, rfl, HA, HK1, HO_7, HB⟩ := hrel
      cases gk with
      | zero => exact absurd HA.out (by simp [labels_Put.l0])
      | succ k1 =>
        have H := HA.out
        clear HA
        simp only [labels_Put.l0] at H
        by_cases c8 : x22_1 < (l1.length : Int)
        · rw [if_pos c8] at H
          have c8b0 : decide (x22_1 < (l1.length : Int)) = true := decide_eq_true c8
          clear c8
          by_cases c9 : 0 ≤ x22_1
          · rw [if_pos c9] at H
            have c9b0 : decide (0 ≤ x22_1) = true := decide_eq_true c9
            clear c9
            by_cases c10 : x22_1 < (l1.length : Int)
            · rw [if_pos c10] at H
              have c10b0 : decide (x22_1 < (l1.length : Int)) = true := decide_eq_true c10
              clear c10
              replace H := Option.bind_eq_some_iff.mp H
              obtain ⟨t146, A110, H⟩ := H
              replace H : ((vint_PutText.f k1 t146 ((rd_T89 l1 x22_1).f1)).bind fun t149 => (labels_Put.l0 k1 t149 l1 (l1.length : Int) (wrap64 (x22_1 + 1)))) = some (r1, r2) := H
              have A11 := Aside0.mk A110
              clear A110
              replace H := Option.bind_eq_some_iff.mp H
              obtain ⟨t149, A120, H⟩ := H
              replace H : (labels_Put.l0 k1 t149 l1 (l1.length : Int) (wrap64 (x22_1 + 1))) = some (r1, r2) := H
              have A12 := Aside0.mk A120
              clear A120
              have H' := Aside0.mk H
              clear H
              have p144 : 0 ≤ (x22_1 : Int) := of_decide_eq_true (by first | (with_reducible assumption) | assumption)
              have q144 : x22_1 < (l1.length : Int) := of_decide_eq_true (by first | (with_reducible assumption) | assumption)
              obtain ⟨ad144, e144, hx144_0, hx144_1⟩ := at_T89 HR1.out x22_1 p144 q144
              cases e144
              replace hx144_0 := (HB.out.cell (World.block_lt_of_cell? w _ hx144_0)).trans hx144_0
              replace hx144_1 := (HB.out.cell (World.block_lt_of_cell? w _ hx144_1)).trans hx144_1
              replace p144 := eq_true p144
              replace q144 := eq_true q144
              try go_wp2_with (first | ((with_reducible refine gate_dst (N := 9) rfl ?_); refine box_event ?hg (N := 9) ?hd (cs := #[.string (⟨#[]⟩ : ByteArray), .string (⟨#[]⟩ : ByteArray)]) (t := 89) ?hr ?_; (case hd => rfl); (case hg => rfl); (case hr => first | (go_simp; done) | (go_simp; rfl)); intro gb145 hg w13 hbox hb; have n0_ := Aside0.mk (Kd.R_below (by (with_reducible repeat (first | apply Kd.R_alloc | apply Kd.R_drewN | apply Kd.R_drew)); exact HO_7.out) hb); have n1_ := Aside0.mk (below_step (by repeat (first | (with_reducible first | exact HB.out | apply below_alloc | apply pw_below_drewN | apply below_drew1) | exact HB.out)) hb); have n2_ := Aside0.mk (hbox); have n3_ := Aside0.mk ((by rw [hg]; exact (below_size (by repeat (first | (with_reducible first | exact HB.out | apply below_alloc | apply pw_below_drewN | apply below_drew1) | exact HB.out))) : w.heap.size ≤ gb145)); have n4_ := Aside0.mk ((by rw [hg]; exact (below_size (by repeat (first | (with_reducible first | exact HB.out | apply below_alloc | apply pw_below_drewN | apply below_drew1) | exact HB.out))) : w.heap.size ≤ gb145)); clear HO_7; clear HB; have HO_7 := n0_; have HB := n1_; have BK145 := n2_; have GW145 := n3_; have GE145 := n4_; clear n0_ n1_ n2_ n3_ n4_; clear hb hbox hg; have hcz14_0 : w13.cell? ⟨gb145, 0, none⟩ = some (.string (⟨#[]⟩ : ByteArray)) := (blk_cell BK145.out 0).trans rfl; have hcz14_1 : w13.cell? ⟨gb145, 1, none⟩ = some (.string (⟨#[]⟩ : ByteArray)) := (blk_cell BK145.out 1).trans rfl; have hfz14_0 := blk_frozen BK145.out 0; have hfz14_1 := blk_frozen BK145.out 1))
              have n0_ : Aside0 (Kd.R (Kd.int .u8) 5 ((w13.setCell ⟨gb145, 0, none⟩ (.string ((rd_T89 l1 x22_1).f0))).setCell ⟨gb145, 1, none⟩ (.string ((rd_T89 l1 x22_1).f1))) w.heap.size (fun _ => True) u7 x7_1) := ⟨by (with_reducible repeat (first | apply Kd.R_alloc | apply Kd.R_drewN | apply Kd.R_drew)); exact Kd.R_mono (Kd.R_far (p := ⟨gb145, 1, none⟩) (Kd.R_far (p := ⟨gb145, 0, none⟩) (Kd.R_types HO_7.out BK145.out (by decide)) (fun _ hk => hk.2) (.string ((rd_T89 l1 x22_1).f0))) (fun _ hk => hk.2) (.string ((rd_T89 l1 x22_1).f1))) (fun _ hk => trivial)⟩
              have n1_ : Aside0 (((w13.setCell ⟨gb145, 0, none⟩ (.string ((rd_T89 l1 x22_1).f0))).setCell ⟨gb145, 1, none⟩ (.string ((rd_T89 l1 x22_1).f1))).heap[gb145]? = some (.cells #[.string ((rd_T89 l1 x22_1).f0), .string ((rd_T89 l1 x22_1).f1)] 89 (0, 0))) := ⟨by (with_reducible repeat (first | refine blk_drewN ?_ _ | refine blk_drew ?_ | refine blk_alloc ?_ _)); refine blk_put (cs := #[.string ((rd_T89 l1 x22_1).f0), .string (⟨#[]⟩ : ByteArray)]) ?_ 1 _ rfl; (with_reducible repeat (first | refine blk_drewN ?_ _ | refine blk_drew ?_ | refine blk_alloc ?_ _)); refine blk_put (cs := #[.string (⟨#[]⟩ : ByteArray), .string (⟨#[]⟩ : ByteArray)]) ?_ 0 _ rfl; (with_reducible repeat (first | refine blk_drewN ?_ _ | refine blk_drew ?_ | refine blk_alloc ?_ _)); exact BK145.out⟩
              have n2_ : Aside0 (Below w.heap.size w ((w13.setCell ⟨gb145, 0, none⟩ (.string ((rd_T89 l1 x22_1).f0))).setCell ⟨gb145, 1, none⟩ (.string ((rd_T89 l1 x22_1).f1)))) := ⟨by repeat (first | (with_reducible first | exact HB.out | apply below_alloc | apply pw_below_drewN | apply below_drew1 | refine below_set ?_ GE145.out) | exact HB.out)⟩
              (try clear HO_7)
              (try clear BK145)
              (try clear HB)
              generalize ((w13.setCell ⟨gb145, 0, none⟩ (.string ((rd_T89 l1 x22_1).f0))).setCell ⟨gb145, 1, none⟩ (.string ((rd_T89 l1 x22_1).f1))) = w15 at n0_ n1_ n2_ ⊢
              have HO_7 := n0_
              have BK145 := n1_
              have HB := n2_
              clear n0_ n1_ n2_
              have n0_ := Aside0.mk (Kd.R_drew HO_7.out)
              have n1_ := Aside0.mk (blk_drew BK145.out)
              have n2_ := Aside0.mk (below_drew1 HB.out)
              clear HO_7
              clear BK145
              clear HB
              have HO_7 := n0_
              have BK145 := n1_
              have HB := n2_
              clear n0_ n1_ n2_
              obtain ⟨Ao17, co17, eo17⟩ := Kd.R_slice HO_7.out
              (first | subst eo17 | (injection eo17 with f1_ f2_ f3_; have f4_ := f1_.symm; have f5_ := f3_.symm; clear f1_ f2_ f3_; subst f4_; subst f5_))
              refine start_ (n := 8) (S := fun w' => w'.cell? ⟨gb145, 0, none⟩ = some (.string ((rd_T89 l1 x22_1).f0)) ∧ w'.cell? ⟨gb145, 1, none⟩ = some (.string ((rd_T89 l1 x22_1).f1))) (ds := []) #[false, false, false, false, false, false, false, false] (by kernel_rfl) rfl rfl ⟨(blk_cell BK145.out 0).trans rfl, (blk_cell BK145.out 1).trans rfl⟩ (fun hHeld => ?_); refine with_tabW labels_Put.tab8 labels_Put.bits8 (fun HT_ HW_ => ?_)
              generalize w15.drew = w16 at HO_7 BK145 HB hHeld ⊢
              refine pure_ (i := 0) (N := some 26) (v := ?_) (a' := ?_) #[true, false, false, false, false, false, false, false] rfl rfl (any_of HT_.out (by kernel_rfl)) (fun _ _ _ h => h) (Or.inl ⟨by rfl, ?_⟩) ?_ ?_
              rotate_left
              · intro w'
                go_simp
                with_reducible rfl
              rotate_left
              · simp only [Act.put, List.setIfInBounds_toArray, List.set_cons_zero, List.set_cons_succ, i64_w, i32_w]
                rfl
              refine pure_ (i := 1) (N := some 27) (v := ?_) (a' := ?_) #[true, true, false, false, false, false, false, false] rfl rfl (any_of HT_.out (by kernel_rfl)) (fun _ _ _ h => h) (Or.inl ⟨by rfl, ?_⟩) ?_ ?_
              rotate_left
              · intro w'
                go_simp
                with_reducible rfl
              rotate_left
              · simp only [Act.put, List.setIfInBounds_toArray, List.set_cons_zero, List.set_cons_succ, i64_w, i32_w]
                rfl
              refine pure_ (i := 4) (N := some 30) (v := ?_) (a' := ?_) #[true, true, false, false, true, false, false, false] rfl rfl (any_of HT_.out (by kernel_rfl)) (fun _ _ _ h => h) (Or.inl ⟨by rfl, ?_⟩) ?_ ?_
              rotate_left
              · intro w'
                go_simp
                with_reducible rfl
              rotate_left
              · simp only [Act.put, List.setIfInBounds_toArray, List.set_cons_zero, List.set_cons_succ, i64_w, i32_w]
                rfl
              refine take_ (i := 2) (N := some 28) (v := ?_) (a' := ?_) #[true, true, true, false, true, false, false, false] rfl rfl (take_ofW HT_.out HW_.out (by kernel_rfl)) (fun _ _ _ h => h) (Or.inl ⟨by rfl, ?_⟩) hHeld ?_ ?_
              rotate_left
              · rintro w' ⟨s0, s1⟩
                go_simp
                with_reducible rfl
              rotate_left
              · simp only [Act.put, List.setIfInBounds_toArray, List.set_cons_zero, List.set_cons_succ, i64_w, i32_w]
                rfl
              refine take_ (i := 5) (N := some 31) (v := ?_) (a' := ?_) #[true, true, true, false, true, true, false, false] rfl rfl (take_ofW HT_.out HW_.out (by kernel_rfl)) (fun _ _ _ h => h) (Or.inl ⟨by rfl, ?_⟩) hHeld ?_ ?_
              rotate_left
              · rintro w' ⟨s0, s1⟩
                go_simp
                with_reducible rfl
              rotate_left
              · simp only [Act.put, List.setIfInBounds_toArray, List.set_cons_zero, List.set_cons_succ, i64_w, i32_w]
                rfl
              refine one_ (i := 3) (N := some 29) #[true, true, true, true, true, true, false, false] rfl rfl (one_of HT_.out (by kernel_rfl)) (by decide) (fun K hK => ?_)
              refine goes_ Tryz.func144 (by kernel_rfl) rfl #[.slice Ao17 x7_1.length co17, .string ((rd_T89 l1 x22_1).f0)] (by rfl) rfl rfl (by (try simp only [List.map_toArray, List.map_cons, List.map_nil]); first | done | rfl | (simp only [List.length_drop, List.length_take]; rfl)) ?_
              with_reducible refine (vint_PutText.calls k1 _ _ x7_1 ((rd_T89 l1 x22_1).f0) t146 _ ?side1 ?side2 A11.out).mono ?_
              (case side1 => repeat (first | exact (Kd.R_reads' HO_7.out).2.2 | (with_reducible refine Kd.C_alloc ?_ _) | (with_reducible refine Kd.C_drewN ?_ _) | (with_reducible refine Kd.C_drew ?_)))
              (case side2 => exact (Kd.R_reads' HO_7.out).2.1)
              rintro e w18 ⟨v147, rfl, ho0, hb⟩
              refine ⟨_, rfl, ?_⟩
              have n0_ := Aside0.mk (Kd.R_elder' (by (with_reducible repeat (first | apply Kd.R_alloc | apply Kd.R_drewN | apply Kd.R_drew)); exact HO_7.out) (Kd.R_base ho0) hb)
              have n1_ := Aside0.mk (Kd.R_lower (Kd.R_new' ho0 (Kd.R_lt (by (with_reducible repeat (first | apply Kd.R_alloc | apply Kd.R_drewN | apply Kd.R_drew)); exact HO_7.out))) (below_size (by repeat (first | (with_reducible first | exact HB.out | apply below_alloc | apply pw_below_drewN | apply below_drew1 | refine below_set ?_ GE145.out) | exact HB.out))))
              have n2_ := Aside0.mk (blk_below (g := gb145) (o := .cells #[.string ((rd_T89 l1 x22_1).f0), .string ((rd_T89 l1 x22_1).f1)] 89 (0, 0)) (by (with_reducible repeat (first | refine blk_drewN ?_ _ | refine blk_drew ?_ | refine blk_alloc ?_ _)); exact BK145.out) hb)
              have n3_ := Aside0.mk (below_step (by repeat (first | (with_reducible first | exact HB.out | apply below_alloc | apply pw_below_drewN | apply below_drew1 | refine below_set ?_ GE145.out) | exact HB.out)) hb)
              clear HO_7
              clear BK145
              clear HB
              have HO_7 := n0_
              have HO148 := n1_
              have BK145 := n2_
              have HB := n3_
              clear n0_ n1_ n2_ n3_
              (try clear hb)
              (try clear hb2)
              (try clear hk)
              (try clear hi)
              (try clear ho0)
              obtain ⟨Ao19, co19, eo19⟩ := Kd.R_slice HO148.out
              (first | subst eo19 | (injection eo19 with f1_ f2_ f3_; have f4_ := f1_.symm; have f5_ := f3_.symm; clear f1_ f2_ f3_; subst f4_; subst f5_))
              refine hK.out _ _ ⟨(blk_cell BK145.out 0).trans rfl, (blk_cell BK145.out 1).trans rfl⟩ (fun hHeld => ?_)
              clear hK K
              refine norm_ (a' := ?_) ?_ ?_
              rotate_left
              · show Act.put _ (some 29) _ = _
                simp only [Act.put, List.setIfInBounds_toArray, List.set_cons_zero, List.set_cons_succ, i64_w, i32_w]
                rfl
              refine one_ (i := 6) (N := some 32) #[true, true, true, true, true, true, true, false] rfl rfl (one_of HT_.out (by kernel_rfl)) (by decide) (fun K hK => ?_)
              refine goes_ Tryz.func144 (by kernel_rfl) rfl #[.slice Ao19 t146.length co19, .string ((rd_T89 l1 x22_1).f1)] (by rfl) rfl rfl (by (try simp only [List.map_toArray, List.map_cons, List.map_nil]); first | done | rfl | (simp only [List.length_drop, List.length_take]; rfl)) ?_
              with_reducible refine (vint_PutText.calls k1 _ _ t146 ((rd_T89 l1 x22_1).f1) t149 _ ?side1 ?side2 A12.out).mono ?_
              (case side1 => repeat (first | exact (Kd.R_reads' HO148.out).2.2 | (with_reducible refine Kd.C_alloc ?_ _) | (with_reducible refine Kd.C_drewN ?_ _) | (with_reducible refine Kd.C_drew ?_)))
              (case side2 => exact (Kd.R_reads' HO148.out).2.1)
              rintro e w20 ⟨v150, rfl, ho0, hb⟩
              refine ⟨_, rfl, ?_⟩
              have n0_ := Aside0.mk (Kd.R_elder' (by (with_reducible repeat (first | apply Kd.R_alloc | apply Kd.R_drewN | apply Kd.R_drew)); exact HO_7.out) (Kd.R_base ho0) hb)
              have n1_ := Aside0.mk (Kd.R_elder' (by (with_reducible repeat (first | apply Kd.R_alloc | apply Kd.R_drewN | apply Kd.R_drew)); exact HO148.out) (Kd.R_base ho0) hb)
              have n2_ := Aside0.mk (Kd.R_lower (Kd.R_new' (Kd.R_new' ho0 (Kd.R_lt (by (with_reducible repeat (first | apply Kd.R_alloc | apply Kd.R_drewN | apply Kd.R_drew)); exact HO_7.out))) (Kd.R_lt (by (with_reducible repeat (first | apply Kd.R_alloc | apply Kd.R_drewN | apply Kd.R_drew)); exact HO148.out))) (below_size (by repeat (first | (with_reducible first | exact HB.out | apply below_alloc | apply pw_below_drewN | apply below_drew1 | refine below_set ?_ GE145.out) | exact HB.out))))
              have n3_ := Aside0.mk (blk_below (g := gb145) (o := .cells #[.string ((rd_T89 l1 x22_1).f0), .string ((rd_T89 l1 x22_1).f1)] 89 (0, 0)) (by (with_reducible repeat (first | refine blk_drewN ?_ _ | refine blk_drew ?_ | refine blk_alloc ?_ _)); exact BK145.out) hb)
              have n4_ := Aside0.mk (below_step (by repeat (first | (with_reducible first | exact HB.out | apply below_alloc | apply pw_below_drewN | apply below_drew1 | refine below_set ?_ GE145.out) | exact HB.out)) hb)
              clear HO_7
              clear HO148
              clear BK145
              clear HB
              have HO_7 := n0_
              have HO148 := n1_
              have HO151 := n2_
              have BK145 := n3_
              have HB := n4_
              clear n0_ n1_ n2_ n3_ n4_
              (try clear hb)
              (try clear hb2)
              (try clear hk)
              (try clear hi)
              (try clear ho0)
              refine hK.out _ _ ⟨(blk_cell BK145.out 0).trans rfl, (blk_cell BK145.out 1).trans rfl⟩ (fun hHeld => ?_)
              clear hK K
              refine norm_ (a' := ?_) ?_ ?_
              rotate_left
              · show Act.put _ (some 32) _ = _
                simp only [Act.put, List.setIfInBounds_toArray, List.set_cons_zero, List.set_cons_succ, i64_w, i32_w]
                rfl
              refine pure_ (i := 7) (N := some 7) (v := ?_) (a' := ?_) #[true, true, true, true, true, true, true, true] rfl rfl (any_of HT_.out (by kernel_rfl)) (fun _ _ _ h => h) (Or.inl ⟨by rfl, ?_⟩) ?_ ?_
              rotate_left
              · intro w'
                go_simp
                with_reducible rfl
              rotate_left
              · simp only [Act.put, List.setIfInBounds_toArray, List.set_cons_zero, List.set_cons_succ, i64_w, i32_w]
                rfl
              refine done_ (done_of HT_.out (by kernel_rfl)) ?_
              try go_wp2
              go_roundg k1
              case measure => have := HK1.out; omega
              case rel => exact ⟨(t149), (wrap64 (x22_1 + 1)), (by first | rfl | (simp; done) | (simp [*]; done)), H', ⟨by have := HK1.out; omega⟩, ⟨by (with_reducible repeat (first | apply Kd.R_alloc | apply Kd.R_drewN | apply Kd.R_drew)); exact Kd.R_mono HO151.out (fun _ hk => trivial)⟩, ⟨by repeat (first | (with_reducible first | exact HB.out | apply below_alloc | apply pw_below_drewN | apply below_drew1 | refine below_set ?_ GE145.out) | exact HB.out)⟩⟩
            · rw [if_neg c10] at H
              exact absurd H (by simp)
          · rw [if_neg c9] at H
            exact absurd H (by simp)
        · rw [if_neg c8] at H
          have c8b0 : decide (x22_1 < (l1.length : Int)) = false := decide_eq_false c8
          clear c8
          simp only [Option.some.injEq, Prod.mk.injEq] at H
          obtain ⟨rfl, rfl⟩ := H
          go_wp2
          go_ret2
          exact ⟨_, by first | rfl | (simp [errW_none, errW_some] <;> rfl) | (simp [*, errW_none, errW_some] <;> rfl), by (with_reducible repeat (first | apply Kd.R_alloc | apply Kd.R_drewN | apply Kd.R_drew)); exact HO_7.out, by repeat (first | (with_reducible first | exact HB.out | apply below_alloc | apply pw_below_drewN | apply below_drew1) | exact HB.out)⟩
  · rw [if_neg c4] at H
    have c4b0 : (t140 == 0) = false := beq_eq_false_iff_ne.mpr c4
    have c4b1 : (t140 != 0) = true := bne_iff_ne.mpr c4
    simp only [Option.some.injEq, Prod.mk.injEq] at H
    obtain ⟨rfl, rfl⟩ := H
    go_enter Tryz.func86, Tryz.ntmps86
    go_wp2_with (first | ((with_reducible refine gate_callee (f := 142) rfl ?_); refine goesL_ (some 11) rfl rfl Tryz.func142 (by kernel_rfl) rfl #[.slice A1 l1.length c1] rfl (by (try simp only [List.map_toArray, List.map_cons, List.map_nil]); first | done | rfl | (simp only [List.length_drop, List.length_take]; rfl)) ?_; (with_reducible refine (labels_right.calls k _ _ l1 t140 _ ?side1 ?side2 ?side3 A3.out).mono ?_); (case side1 => repeat (first | exact HR1.out | (with_reducible refine Kd.C_alloc ?_ _) | (with_reducible refine Kd.C_drewN ?_ _) | (with_reducible refine Kd.C_drew ?_))); (case side2 => exact HC1.out); (case side3 => first | exact HT.out | exact tabs_below HT.out (by repeat (first | (with_reducible first | exact HB.out | apply below_alloc | apply pw_below_drewN | apply below_drew1) | exact HB.out))); rintro e w21 ⟨rfl, hb⟩; refine ⟨_, rfl, ?_⟩; have n0_ := Aside0.mk (below_step (by repeat (first | (with_reducible first | exact HB.out | apply below_alloc | apply pw_below_drewN | apply below_drew1) | exact HB.out)) hb); clear HB; have HB := n0_; clear n0_; (try clear hb); (try clear hb2); (try clear hk); (try clear hi)))
    go_ret2
    exact ⟨_, by first | rfl | (simp [errW_none, errW_some] <;> rfl) | (simp [*, errW_none, errW_some] <;> rfl), by first | exact Kd.R_nil _ _ _ _ _ | exact Kd.N_nil _ _ _ _ _ | exact Kd.V_nil _ _ _ _ _ | exact Kd.Q_nil _ _ _ _ _ | exact Kd.S_nil _ _ _ _ _, by repeat (first | (with_reducible first | exact HB.out | apply below_alloc | apply pw_below_drewN | apply below_drew1) | exact HB.out)⟩

def tocsinlaw16_alike.f (a0 : Nat) (a1 : Nat) : Option (Bool) := some ((a0 : Int) == (a1 : Int))
end Go.Proofs.YtoncpeadbhgmaaaGreatDoor.G

set_option linter.unusedVariables false
set_option linter.unusedSimpArgs false
namespace Go.Proofs.YtoncpeadbhgmaaaGreatDoor.G
open Go.RowKit Go.Sort Go.Proofs.YtoncpeadbhgmaaaGreatDoorW.PrintWords

theorem wrap_in (x : Int) (h0 : -9223372036854775808 ≤ x) (h1 : x ≤ 9223372036854775807) : wrap64 x = x := by unfold wrap64; omega
theorem wrap_succ (i : Nat) (h : i < 9223372036854775807) : wrap64 ((i : Int) + 1) = ((i + 1 : Nat) : Int) := by rw [wrap_in _ (by omega) (by omega)]; omega
theorem rdOf_at {α : Type} (z : α) (l : List α) (i : Nat) (h : i < l.length) : rdOf z l (i : Int) = l[i] := by simp [rdOf, List.getD_eq_getElem?_getD, h]
theorem toList_inj {a b : ByteArray} (h : a.toList = b.toList) : a = b := by
  rw [ByteArray.toList_eq, ByteArray.toList_eq] at h
  cases a; cases b
  simpa using h

def hasN (l : List ByteArray) (s : ByteArray) : Bool := l.any fun x => decide (x = s)
theorem hasN_cons (x : ByteArray) (l : List ByteArray) (s : ByteArray) : hasN (x :: l) s = (decide (x = s) || hasN l s) := rfl

theorem index_ev (l : List ByteArray) (s : ByteArray) (hl : l.length ≤ 140737488355328) : ∀ d i : Nat, i + d = l.length →
    ∃ r : Int, Ev (fun k => slices_Index_string_string.l0 k l s (l.length : Int) (i : Int)) r ∧ decide (r ≥ 0) = hasN (l.drop i) s
  | 0, i, h => by
    refine ⟨-1, Ev.step (fun k => by rw [slices_Index_string_string.l0]) ?_, ?_⟩
    · have h1 : ¬ ((i : Int) < (l.length : Int)) := by omega
      simp only [h1, if_false]
      exact Ev.now _
    · rw [List.drop_eq_nil_of_le (by omega)]; rfl
  | d + 1, i, h => by
    have hlt : i < l.length := by omega
    have h1 : (i : Int) < (l.length : Int) := by omega
    have h0 : (0 : Int) ≤ i := by omega
    rw [List.drop_eq_getElem_cons hlt, hasN_cons]
    by_cases he : l[i] = s
    · refine ⟨i, Ev.step (fun k => by rw [slices_Index_string_string.l0]) ?_, by simp [he]⟩
      rw [rdOf_at _ _ _ hlt]
      simp only [h1, h0, he, if_true]
      exact Ev.now _
    · obtain ⟨r, ih, hr⟩ := index_ev l s hl d (i + 1) (by omega)
      refine ⟨r, Ev.step (fun k => by rw [slices_Index_string_string.l0]) ?_, by simp [he, hr]⟩
      have he2 : ¬ s.toList = l[i].toList := fun h => he (toList_inj h).symm
      rw [rdOf_at _ _ _ hlt]
      simp only [h1, h0, if_true, he2, if_false, wrap_succ i (by omega)]
      exact ih
theorem contains_ev (l : List ByteArray) (s : ByteArray) (hl : l.length ≤ 140737488355328) : Ev (fun k => slices_Contains_string_string.f k l s) (hasN l s) := by
  obtain ⟨r, h, hr⟩ := index_ev l s hl l.length 0 (by omega)
  have h' : Ev (fun k => slices_Index_string_string.f k l s) r := h
  refine Ev.bind (f := fun _ t155 => some (decide (t155 ≥ 0))) h' ?_
  rw [hr]; exact Ev.now _

theorem has_ev (l : List ByteArray) (s : ByteArray) (hl : l.length ≤ 140737488355328) : ∀ d i : Nat, i + d = l.length →
    Ev (fun k => tocsinref04_has.l0 k s l (l.length : Int) (i : Int)) (hasN (l.drop i) s)
  | 0, i, h => by
    refine Ev.step (fun k => by rw [tocsinref04_has.l0]) ?_
    have h1 : ¬ ((i : Int) < (l.length : Int)) := by omega
    rw [List.drop_eq_nil_of_le (by omega)]
    simp only [h1, if_false]
    exact Ev.now _
  | d + 1, i, h => by
    have hlt : i < l.length := by omega
    have h1 : (i : Int) < (l.length : Int) := by omega
    have h0 : (0 : Int) ≤ i := by omega
    refine Ev.step (fun k => by rw [tocsinref04_has.l0]) ?_
    rw [List.drop_eq_getElem_cons hlt, hasN_cons, rdOf_at _ _ _ hlt]
    by_cases he : l[i] = s
    · simp only [h1, h0, he, if_true, decide_true, Bool.true_or]
      exact Ev.now _
    · have he2 : ¬ l[i].toList = s.toList := fun h => he (toList_inj h)
      simp only [h1, h0, if_true, he2, if_false, wrap_succ i (by omega), he, decide_false, Bool.false_or]
      exact has_ev l s hl d (i + 1) (by omega)
theorem has_f (l : List ByteArray) (s : ByteArray) (hl : l.length ≤ 140737488355328) : Ev (fun k => tocsinref04_has.f k l s) (hasN l s) := has_ev l s hl l.length 0 (by omega)

def pickF (l : List S89) (names : List ByteArray) (inn : Bool) : List S89 := l.filter fun x => hasN names x.f0 == inn
theorem pickF_yes (x : S89) (l : List S89) (names : List ByteArray) (inn : Bool) (h : (hasN names x.f0 == inn) = true) : pickF (x :: l) names inn = x :: pickF l names inn := by unfold pickF; rw [List.filter_cons, if_pos h]
theorem pickF_no (x : S89) (l : List S89) (names : List ByteArray) (inn : Bool) (h : ¬ (hasN names x.f0 == inn) = true) : pickF (x :: l) names inn = pickF l names inn := by unfold pickF; rw [List.filter_cons, if_neg h]
theorem pick_l0 (l : List S89) (names : List ByteArray) (inn : Bool) (hn : names.length ≤ 140737488355328) (hl : l.length ≤ 4398046511104) : ∀ (d i : Nat) (acc : List S89), i + d = l.length → acc.length ≤ i →
    Ev (fun k => labels_pick.l0 k inn names acc l (l.length : Int) (i : Int)) (acc ++ pickF (l.drop i) names inn)
  | 0, i, acc, h, ha => by
    refine Ev.step (fun k => by rw [labels_pick.l0]) ?_
    have h1 : ¬ ((i : Int) < (l.length : Int)) := by omega
    rw [List.drop_eq_nil_of_le (by omega)]
    simp only [h1, if_false]
    rw [show acc ++ pickF [] names inn = acc by simp [pickF]]
    exact Ev.now _
  | d + 1, i, acc, h, ha => by
    have hlt : i < l.length := by omega
    have h1 : (i : Int) < (l.length : Int) := by omega
    have h0 : (0 : Int) ≤ i := by omega
    refine Ev.step (fun k => by rw [labels_pick.l0]) ?_
    rw [List.drop_eq_getElem_cons hlt, rd_at _ _ hlt]
    simp only [h1, h0, if_true, wrap_succ i (by omega)]
    refine Ev.bind (contains_ev names l[i].f0 hn) ?_
    have hacc : acc.length < 4398046511104 := by omega
    by_cases he : (hasN names l[i].f0 == inn) = true
    · simp only [he, if_true, hacc]
      rw [show acc ++ pickF (l[i] :: l.drop (i + 1)) names inn = (acc ++ [l[i]]) ++ pickF (l.drop (i + 1)) names inn by rw [pickF_yes _ _ _ _ he, List.append_assoc]; rfl]
      exact pick_l0 l names inn hn hl d (i + 1) (acc ++ [l[i]]) (by omega) (by simp; omega)
    · simp only [he, if_false]
      rw [pickF_no _ _ _ _ he]
      exact pick_l0 l names inn hn hl d (i + 1) acc (by omega) (by omega)
theorem pick_f (l : List S89) (names : List ByteArray) (inn : Bool) (hn : names.length ≤ 140737488355328) (hl : l.length ≤ 4398046511104) : Ev (fun k => labels_pick.f k l inn names) (pickF l names inn) :=
  pick_l0 l names inn hn hl l.length 0 [] (by omega) (by simp)
theorem rpick_l0 (l : List S89) (names : List ByteArray) (inn : Bool) (hn : names.length ≤ 140737488355328) (hl : l.length ≤ 4398046511104) : ∀ (d i : Nat) (acc : List S89), i + d = l.length → acc.length ≤ i →
    Ev (fun k => tocsinref04_Pick.l0 k names inn acc l (l.length : Int) (i : Int)) (acc ++ pickF (l.drop i) names inn)
  | 0, i, acc, h, ha => by
    refine Ev.step (fun k => by rw [tocsinref04_Pick.l0]) ?_
    have h1 : ¬ ((i : Int) < (l.length : Int)) := by omega
    rw [List.drop_eq_nil_of_le (by omega)]
    simp only [h1, if_false]
    rw [show acc ++ pickF [] names inn = acc by simp [pickF]]
    exact Ev.now _
  | d + 1, i, acc, h, ha => by
    have hlt : i < l.length := by omega
    have h1 : (i : Int) < (l.length : Int) := by omega
    have h0 : (0 : Int) ≤ i := by omega
    refine Ev.step (fun k => by rw [tocsinref04_Pick.l0]) ?_
    rw [List.drop_eq_getElem_cons hlt, rd_at _ _ hlt]
    simp only [h1, h0, if_true, wrap_succ i (by omega)]
    refine Ev.bind (has_f names l[i].f0 hn) ?_
    have hacc : acc.length < 4398046511104 := by omega
    by_cases he : (hasN names l[i].f0 == inn) = true
    · simp only [he, if_true, hacc]
      rw [show acc ++ pickF (l[i] :: l.drop (i + 1)) names inn = (acc ++ [l[i]]) ++ pickF (l.drop (i + 1)) names inn by rw [pickF_yes _ _ _ _ he, List.append_assoc]; rfl]
      exact rpick_l0 l names inn hn hl d (i + 1) (acc ++ [l[i]]) (by omega) (by simp; omega)
    · simp only [he, if_false]
      rw [pickF_no _ _ _ _ he]
      exact rpick_l0 l names inn hn hl d (i + 1) acc (by omega) (by omega)
theorem rpick_f (l : List S89) (names : List ByteArray) (inn : Bool) (hn : names.length ≤ 140737488355328) (hl : l.length ≤ 4398046511104) : Ev (fun k => tocsinref04_Pick.f k l names inn) (pickF l names inn) :=
  rpick_l0 l names inn hn hl l.length 0 [] (by omega) (by simp)
end Go.Proofs.YtoncpeadbhgmaaaGreatDoor.G

set_option linter.unusedVariables false
set_option linter.unusedSimpArgs false
namespace Go.Proofs.YtoncpeadbhgmaaaGreatDoor.G
open Go.RowKit Go.Sort Go.Proofs.YtoncpeadbhgmaaaGreatDoorW.PrintWords

/-- A comparison that is a linear order: below 0, 0, above 0. -/
structure Lin {α : Type} (f : α → α → Int) : Prop where
  swap : ∀ a b, f b a = - f a b
  zero : ∀ a b, f a b = 0 ↔ a = b
  trans : ∀ a b c, f a b < 0 → f b c < 0 → f a c < 0

theorem cb_lin : Lin Lib.compareBytes where
  swap := by
    intro a
    induction a with
    | nil => intro b; cases b <;> rfl
    | cons x a ih =>
      intro b
      cases b with
      | nil => rfl
      | cons y b =>
        simp only [Lib.compareBytes]
        by_cases h1 : x < y
        · have h2 : ¬ y < x := by rw [UInt8.lt_iff_toNat_lt] at *; omega
          simp [h1, h2]
        · by_cases h2 : y < x
          · simp [h1, h2]
          · simp [h1, h2, ih]
  zero := by
    intro a
    induction a with
    | nil => intro b; cases b <;> simp [Lib.compareBytes]
    | cons x a ih =>
      intro b
      cases b with
      | nil => simp [Lib.compareBytes]
      | cons y b =>
        simp only [Lib.compareBytes]
        by_cases h1 : x < y
        · have h2 : ¬ x = y := by rintro rfl; rw [UInt8.lt_iff_toNat_lt] at h1; omega
          simp [h1, h2]
        · by_cases h2 : y < x
          · have h3 : ¬ x = y := by rintro rfl; rw [UInt8.lt_iff_toNat_lt] at h2; omega
            simp [h1, h2, h3]
          · have h3 : x = y := by
              apply UInt8.toNat_inj.1
              rw [UInt8.lt_iff_toNat_lt] at h1 h2; omega
            simp [h1, h2, h3, ih]
  trans := by
    intro a
    induction a with
    | nil =>
      intro b c h1 h2
      cases b with
      | nil => simp [Lib.compareBytes] at h1
      | cons y b =>
        cases c with
        | nil => simp [Lib.compareBytes] at h2
        | cons z c => simp [Lib.compareBytes]
    | cons x a ih =>
      intro b c h1 h2
      cases b with
      | nil => simp [Lib.compareBytes] at h1
      | cons y b =>
        cases c with
        | nil => simp [Lib.compareBytes] at h2
        | cons z c =>
          simp only [Lib.compareBytes] at *
          by_cases xy : x < y
          · by_cases yz : y < z
            · have : x < z := by rw [UInt8.lt_iff_toNat_lt] at *; omega
              simp [this]
            · by_cases zy : z < y
              · simp [yz, zy] at h2
              · have : y = z := by
                  apply UInt8.toNat_inj.1
                  rw [UInt8.lt_iff_toNat_lt] at yz zy; omega
                subst this; simp [xy]
          · by_cases yx : y < x
            · simp [xy, yx] at h1
            · have : x = y := by
                apply UInt8.toNat_inj.1
                rw [UInt8.lt_iff_toNat_lt] at xy yx; omega
              subst this
              simp only [xy, yx, if_false] at h1
              by_cases xz : x < z
              · simp [xz]
              · by_cases zx : z < x
                · simp [xz, zx] at h2
                · simp only [xz, zx, if_false] at h2 ⊢
                  exact ih b c h1 h2

theorem cmpB_lin : Lin cmpB where
  swap a b := cb_lin.swap _ _
  zero a b := by
    unfold cmpB
    rw [cb_lin.zero]
    constructor
    · intro h; cases a; cases b; simpa using h
    · rintro rfl; rfl
  trans a b c := cb_lin.trans _ _ _

theorem lin_pair {α β γ : Type} {f : α → α → Int} {g : β → β → Int} (hf : Lin f) (hg : Lin g) (p : γ → α) (q : γ → β) (hpq : ∀ x y, p x = p y → q x = q y → x = y) :
    Lin fun x y => if f (p x) (p y) = 0 then g (q x) (q y) else f (p x) (p y) where
  swap a b := by
    rw [hf.swap (p a) (p b), hg.swap (q a) (q b)]
    by_cases h : f (p a) (p b) = 0
    · rw [if_pos (by omega), if_pos h]
    · rw [if_neg (by omega), if_neg h]
  zero a b := by
    by_cases h : f (p a) (p b) = 0
    · rw [if_pos h, hg.zero]
      exact ⟨fun h2 => hpq _ _ ((hf.zero _ _).1 h) h2, fun e => by rw [e]⟩
    · rw [if_neg h]
      exact ⟨fun h2 => absurd h2 h, fun e => absurd ((hf.zero _ _).2 (by rw [e])) h⟩
  trans a b c := by
    intro h1 h2
    by_cases x : f (p a) (p b) = 0
    · rw [if_pos x] at h1
      rw [(hf.zero _ _).1 x]
      by_cases y : f (p b) (p c) = 0
      · rw [if_pos y] at h2 ⊢; exact hg.trans _ _ _ h1 h2
      · rw [if_neg y] at h2 ⊢; exact h2
    · rw [if_neg x] at h1
      by_cases y : f (p b) (p c) = 0
      · rw [← (hf.zero _ _).1 y, if_neg x]; exact h1
      · rw [if_neg y] at h2
        have := hf.trans _ _ _ h1 h2
        rw [if_neg (by omega)]; exact this

theorem cmpLab_lin : Lin cmpLab := lin_pair cmpB_lin cmpB_lin (fun x : S89 => x.f0) (fun x : S89 => x.f1) (fun x y h1 h2 => by cases x; cases y; simp_all)

theorem cmpLs_lin : Lin cmpLs where
  swap := by
    intro a
    induction a with
    | nil => intro b; cases b <;> rfl
    | cons x a ih =>
      intro b
      cases b with
      | nil => rfl
      | cons y b =>
        simp only [cmpLs]
        rw [cmpLab_lin.swap x y, ih b]
        by_cases h : cmpLab x y = 0
        · rw [if_pos (by omega), if_pos h]
        · rw [if_neg (by omega), if_neg h]
  zero := by
    intro a
    induction a with
    | nil => intro b; cases b <;> simp [cmpLs]
    | cons x a ih =>
      intro b
      cases b with
      | nil => simp [cmpLs]
      | cons y b =>
        simp only [cmpLs]
        by_cases h : cmpLab x y = 0
        · rw [if_pos h, ih, (cmpLab_lin.zero _ _).1 h]; simp
        · rw [if_neg h]
          exact ⟨fun h2 => absurd h2 h, fun e => absurd ((cmpLab_lin.zero _ _).2 (by injection e)) h⟩
  trans := by
    intro a
    induction a with
    | nil =>
      intro b c h1 h2
      cases b with
      | nil => simp [cmpLs] at h1
      | cons y b =>
        cases c with
        | nil => simp [cmpLs] at h2
        | cons z c => simp [cmpLs]
    | cons x a ih =>
      intro b c h1 h2
      cases b with
      | nil => simp [cmpLs] at h1
      | cons y b =>
        cases c with
        | nil => simp [cmpLs] at h2
        | cons z c =>
          simp only [cmpLs] at *
          by_cases xy : cmpLab x y = 0
          · rw [if_pos xy] at h1
            rw [(cmpLab_lin.zero _ _).1 xy]
            by_cases yz : cmpLab y z = 0
            · rw [if_pos yz] at h2 ⊢; exact ih b c h1 h2
            · rw [if_neg yz] at h2 ⊢; exact h2
          · rw [if_neg xy] at h1
            by_cases yz : cmpLab y z = 0
            · rw [← (cmpLab_lin.zero _ _).1 yz, if_neg xy]; exact h1
            · rw [if_neg yz] at h2
              have := cmpLab_lin.trans _ _ _ h1 h2
              rw [if_neg (by omega)]; exact this

theorem Lin.refl {α : Type} {f : α → α → Int} (h : Lin f) (a : α) : f a a = 0 := (h.zero a a).2 rfl
theorem Lin.swo {α : Type} {f : α → α → Int} (h : Lin f) : SWO (ltOf f) where
  irrefl x := by simp [ltOf, h.refl]
  trans x y z h1 h2 := by simp only [ltOf, decide_eq_true_eq] at *; exact h.trans _ _ _ h1 h2
  ntrans x y z h1 h2 := by
    simp only [ltOf, decide_eq_false_iff_not] at *
    intro h3
    have s1 := h.swap x y
    have s2 := h.swap y z
    by_cases e1 : f x y = 0
    · rw [(h.zero _ _).1 e1] at h3; exact h2 h3
    · by_cases e2 : f y z = 0
      · rw [← (h.zero _ _).1 e2] at h3; exact h1 h3
      · have h4 := h.trans x z y h3 (by omega)
        exact h1 h4
theorem cmpPt_swo : SWO (ltOf fun x y : S41 => cmpLs x.f0 y.f0) := swo_sub cmpLs_lin.swo (fun x : S41 => x.f0)

theorem bl_cmp : ∀ a b : List UInt8, Op.bytesLess a b = decide (Lib.compareBytes a b < 0)
  | [], [] => rfl
  | [], _ :: _ => rfl
  | _ :: _, [] => rfl
  | x :: a, y :: b => by
    simp only [Op.bytesLess, Lib.compareBytes]
    by_cases h1 : x < y
    · simp [h1]
    · by_cases h2 : y < x
      · have h3 : ¬ x = y := by rintro rfl; exact h1 h2
        simp [h1, h2, h3]
      · have h3 : x = y := by
          apply UInt8.toNat_inj.1
          rw [UInt8.lt_iff_toNat_lt] at h1 h2; omega
        simp [h1, h2, h3, bl_cmp a b]
theorem cb_vals : ∀ a b : List UInt8, Lib.compareBytes a b = -1 ∨ Lib.compareBytes a b = 0 ∨ Lib.compareBytes a b = 1
  | [], [] => by simp [Lib.compareBytes]
  | [], _ :: _ => by simp [Lib.compareBytes]
  | _ :: _, [] => by simp [Lib.compareBytes]
  | x :: a, y :: b => by
    simp only [Lib.compareBytes]
    have := cb_vals a b
    repeat' split
    all_goals simp_all
theorem less_cmp (a b : ByteArray) : Op.bytesLess a.toList b.toList = decide (cmpB a b < 0) := by
  rw [ByteArray.toList_eq, ByteArray.toList_eq]; exact bl_cmp _ _
theorem side_f (a b : ByteArray) : tocsinref04_side.f a b = some (cmpB a b) := by
  unfold tocsinref04_side.f
  rw [less_cmp, less_cmp, cmpB_lin.swap a b]
  have := cb_vals a.data.toList b.data.toList
  change cmpB a b = -1 ∨ cmpB a b = 0 ∨ cmpB a b = 1 at this
  rcases this with h | h | h <;> simp [h]

theorem cmp_ev (a b : List S89) (ha : a.length ≤ 140737488355328) (hb : b.length ≤ 140737488355328) : ∀ d i : Nat, i + d = a.length → i ≤ b.length →
    Ev (fun k => tocsinref04_Compare.l0 k a b (i : Int)) (cmpLs (a.drop i) (b.drop i))
  | 0, i, h, hib => by
    have hge : ¬ (i : Int) < (a.length : Int) := by omega
    refine Ev.step (fun k => by rw [tocsinref04_Compare.l0]) ?_
    simp only [hge, if_false]
    refine Ev.step (fun k => by rw [tocsinref04_Compare.j1]) ?_
    simp only [Bool.false_eq_true, if_false]
    by_cases h1 : a.length < b.length
    · have h1i : (a.length : Int) < (b.length : Int) := by omega
      simp only [h1i, if_true]
      rw [cmpLs_end _ _ _ (by omega) (by omega)]; exact Ev.now _
    · have h1i : ¬ (a.length : Int) < (b.length : Int) := by omega
      have h2i : ¬ (a.length : Int) > (b.length : Int) := by omega
      simp only [h1i, h2i, if_false]
      rw [cmpLs_both _ _ _ (by omega) (by omega)]; exact Ev.now _
  | d + 1, i, h, hib => by
    have h1 : (i : Int) < (a.length : Int) := by omega
    have h0 : (0 : Int) ≤ i := by omega
    refine Ev.step (fun k => by rw [tocsinref04_Compare.l0]) ?_
    simp only [h1, if_true]
    refine Ev.step (fun k => by rw [tocsinref04_Compare.j1]) ?_
    by_cases hlt : i < b.length
    · have h2 : (i : Int) < (b.length : Int) := by omega
      simp only [h2, h1, h0, decide_true, if_true, side_f, Option.bind_some]
      rw [cmpLs_step a b i (by omega) hlt]
      simp only [cmpLab]
      generalize rd_T89 a i = u
      generalize rd_T89 b i = v
      by_cases e0 : cmpB u.f0 v.f0 = 0
      · simp only [e0, if_true]
        by_cases e1 : cmpB u.f1 v.f1 = 0
        · simp only [e1, if_true, wrap_succ i (by omega)]
          exact cmp_ev a b ha hb d (i + 1) (by omega) (by omega)
        · simp only [e1, if_false]; exact Ev.now _
      · simp only [e0, if_false]; exact Ev.now _
    · have h2 : ¬ (i : Int) < (b.length : Int) := by omega
      have h3 : ¬ (a.length : Int) < (b.length : Int) := by omega
      have h4 : (a.length : Int) > (b.length : Int) := by omega
      simp only [h2, h3, h4, decide_false, Bool.false_eq_true, if_false, if_true]
      rw [cmpLs_more _ _ _ (by omega) (by omega)]; exact Ev.now _
theorem compare_f (a b : List S89) (ha : a.length ≤ 140737488355328) (hb : b.length ≤ 140737488355328) : Ev (fun k => tocsinref04_Compare.f k a b) (cmpLs a b) := cmp_ev a b ha hb a.length 0 (by omega) (by omega)
theorem same_f (a b : List S89) (ha : a.length ≤ 140737488355328) (hb : b.length ≤ 140737488355328) : Ev (fun k => tocsinref04_Same.f k a b) (cmpLs a b == 0) :=
  Ev.bind (f := fun _ t => some (t == 0)) (compare_f a b ha hb) (Ev.now _)
end Go.Proofs.YtoncpeadbhgmaaaGreatDoor.G

set_option linter.unusedVariables false
set_option linter.unusedSimpArgs false
namespace Go.Proofs.YtoncpeadbhgmaaaGreatDoor.G
open Go.RowKit Go.Sort Go.Shelf Go.Proofs.YtoncpeadbhgmaaaGreatDoorW.PrintWords Go.Proofs.YtoncpeadbhgmaaaGreatDoorW.PrintLast Go.Proofs.YtoncpeadbhgmaaaGreatDoorW.PrintMore

def cmpPt (x y : S41) : Int := cmpLs x.f0 y.f0
/-- What holds of a row however it was sorted: one answer behind all of them. -/
noncomputable def sortAll {A β : Type} (c : A → A → Int) (xs : List A) (k : List A → Option β) : Option β :=
  open Classical in if h : xs.length < 4611686018427387904 ∧ (∃ ys : List A, ys.Perm xs ∧ ys.Pairwise fun a b => ¬ c b a < 0) ∧ ∃ r, ∀ ys : List A, ys.Perm xs → (ys.Pairwise fun a b => ¬ c b a < 0) → k ys = some r then some h.2.2.choose else none
theorem sortAll_len {A β : Type} {c : A → A → Int} {xs : List A} {k : List A → Option β} {r : β} (h : sortAll c xs k = some r) : xs.length < 4611686018427387904 := by
  unfold sortAll at h
  split at h
  · rename_i h0; exact h0.1
  · cases h
theorem sortAll_some {A β : Type} {c : A → A → Int} {xs : List A} {k : List A → Option β} {r : β} (h : sortAll c xs k = some r) (ys : List A) (hp : ys.Perm xs) (hs : ys.Pairwise fun a b => ¬ c b a < 0) : k ys = some r := by
  unfold sortAll at h
  split at h
  · rename_i h0
    obtain rfl := Option.some.inj h
    exact h0.2.2.choose_spec ys hp hs
  · cases h
theorem sortAll_eq {A β : Type} {c : A → A → Int} {xs : List A} {k : List A → Option β} {r : β} (hl : xs.length < 4611686018427387904) (he : ∃ ys : List A, ys.Perm xs ∧ ys.Pairwise fun a b => ¬ c b a < 0) (h : ∀ ys : List A, ys.Perm xs → (ys.Pairwise fun a b => ¬ c b a < 0) → k ys = some r) : sortAll c xs k = some r := by
  have h0 : xs.length < 4611686018427387904 ∧ (∃ ys : List A, ys.Perm xs ∧ ys.Pairwise fun a b => ¬ c b a < 0) ∧ ∃ r, ∀ ys : List A, ys.Perm xs → (ys.Pairwise fun a b => ¬ c b a < 0) → k ys = some r := ⟨hl, he, r, h⟩
  unfold sortAll
  rw [dif_pos h0]
  obtain ⟨ys, hp, hs⟩ := he
  have h1 := h0.2.2.choose_spec ys hp hs
  rw [h ys hp hs] at h1
  exact h1.symm
set_option maxHeartbeats 1000000 in
set_option maxRecDepth 100000 in
/-- The closure of vec.Vector. -/
theorem vecLess_calls (x y : S41) (cx cy : List Value) (w : World) (hx : k41.K w x cx) (hy : k41.K w y cy) :
    Calls Tryz.prog 76 #[.agg cx.toArray, .agg cy.toArray] w fun e w' => e = .returned (.int .i64 (cmpPt x y)) ∧ Grew w w' := by
  obtain ⟨A0, c0, rfl, h0, g0⟩ := k41_open hx
  obtain ⟨A1, c1, rfl, h1, g1⟩ := k41_open hy
  clear hx hy
  have c := compare_grew A0 c0 x.f0 A1 c1 y.f0 _ (Kd.C_alloc (Kd.C_alloc g0 (.cells #[.slice A0 x.f0.length c0, .float .f64 x.f1] 41)) (.cells #[.slice A1 y.f0.length c1, .float .f64 y.f1] 41)) (Kd.C_alloc (Kd.C_alloc g1 (.cells #[.slice A0 x.f0.length c0, .float .f64 x.f1] 41)) (.cells #[.slice A1 y.f0.length c1, .float .f64 y.f1] 41))
  change Calls _ _ _ _ (fun e w' => e = .returned (.int .i64 (cmpPt x y)) ∧ _) at c
  generalize cmpPt x y = r at c ⊢
  go_enter Tryz.func76, Tryz.ntmps76
  go_wp2_with fail
  refine c.mono ?_
  rintro e w' ⟨rfl, hg⟩
  go_wp2
  go_ret
  exact ⟨rfl, (((Grew.refl _).alloc _).alloc _).trans hg⟩

/-- slices.SortFunc in vec.Vector. -/
theorem sortPt_calls (base : Nat) (ok : Nat → Prop) (v : Value) (xs : List S41) (W : World) (ho : k41.R 41 W base ok v xs) (hl : xs.length < 4611686018427387904) :
    Calls Tryz.prog 75 #[v, .func (.func 76) #[] #[]] W fun e' w' => e' = .returned (.tuple #[]) ∧ ∃ ys : List S41, ys.Perm xs ∧ (ys.Pairwise fun a b => ¬ cmpPt b a < 0) ∧ k41.R 41 w' base ok v ys ∧ SortKept W w' v :=
  sort_rows k41 Tryz.sortPoint Tryz.isAgg41 Tryz.sizeOf41 cmpPt cmpPt_swo 76 #[] (enters_of Tryz.func76 (by kernel_rfl) rfl) 41 base ok v xs W ho hl
    (fun W' x y cx cy _ hx hy => by simpa using vecLess_calls x y cx cy W' hx hy)
end Go.Proofs.YtoncpeadbhgmaaaGreatDoor.G

set_option linter.unusedVariables false
set_option linter.unusedSimpArgs false
namespace Go.Proofs.YtoncpeadbhgmaaaGreatDoor.G
open Go.RowKit Go.Sort Go.Maps Go.Proofs.YtoncpeadbhgmaaaGreatDoorW.PrintWords

def litI (i : Int) : DataW Unit := .lit (.int .i64 i)
/-- Block mp is a map of at most n entries: each string of ks to its index. -/
def IMap (w : World) (mp n : Nat) (ks : List (List UInt8)) : Prop :=
  ∃ D : DataW Unit, w.ownsMap Tryz.prog 9 (plainElem Tryz.prog 3) mp n D ∧ IsMap D ∧ (∀ s : List UInt8, has D (.string s) = decide (s ∈ ks)) ∧ ∀ s : List UInt8, D.atKey (.string s) (litI 0) = litI (if s ∈ ks then (ks.idxOf s : Int) else 0)
theorem imap_made (w : World) : IMap (w.alloc (.map #[] 0)) w.heap.size 0 [] :=
  ⟨.map [], World.ownsMap_made _ _ _ _, isMap_empty, fun s => by simp [has], fun s => by simp [DataW.atKey]⟩
theorem imap_kept {w w' : World} {mp n : Nat} {ks : List (List UInt8)} {row : Option Nat} (h : IMap w mp n ks) (hg : w.grownBy w' row) (hne : some mp ≠ row) : IMap w' mp n ks := by
  obtain ⟨D, h1, h2⟩ := h
  exact ⟨D, h1.kept hg hne, h2⟩
theorem imap_block {w : World} {mp n : Nat} {ks : List (List UInt8)} (h : IMap w mp n ks) : ∃ es clock, w.heap[mp]? = some (.map es clock) := by
  obtain ⟨D, ⟨es, clock, hb, _⟩, h2⟩ := h
  exact ⟨es, clock, hb⟩
theorem zero3 (w : World) : (zeroValue 3).run Tryz.prog w = .ok (.int .i64 0) w := by kernel_rfl
theorem litI_inj {a b : Int} (h : litI a = litI b) : a = b := by
  unfold litI at h; injection h with h; injection h
theorem imap_look {w : World} {mp n : Nat} {ks : List (List UInt8)} (h : IMap w mp n ks) (s : ByteArray) (hs : s.size ≤ maxLen) :
    (Instr.lookup 107 (.map (some mp)) (.string s) true).run Tryz.prog w = .ok (.tuple #[.int .i64 (if s.data.toList ∈ ks then (ks.idxOf s.data.toList : Int) else 0), .bool (decide (s.data.toList ∈ ks))]) w := by
  obtain ⟨D, h1, h2, h3, h4⟩ := h
  obtain ⟨v, ps, hrun, hv⟩ := h1.look_ok (string_keyed Tryz.underlying9) Tryz.underlying107 (zero3 w) (zd := litI 0) (zp := []) (plainElem_int Tryz.underlying3 (by decide)) (WideMaps.keyOf_string_mk (P := Tryz.prog) Tryz.underlying9 hs)
  obtain ⟨a, rfl, hz, _⟩ := plainElem_int_inv Tryz.underlying3 hv
  simp only [Prod.mk.injEq] at hz
  have e := litI_inj ((h4 _).symm.trans hz.1)
  rw [hrun, e, h3]
theorem idxOf_snoc (ks : List (List UInt8)) (s t : List UInt8) (hs : s ∉ ks) : (if t ∈ ks ++ [s] then ((ks ++ [s]).idxOf t : Int) else 0) = if t = s then (ks.length : Int) else if t ∈ ks then (ks.idxOf t : Int) else 0 := by
  by_cases h : t = s
  · subst h
    simp [List.idxOf_append, hs]
  · by_cases h2 : t ∈ ks
    · simp [List.idxOf_append, h, h2]
    · simp [h, h2]
theorem key_lit (s : List UInt8) : WideAt.IsKeyLit (.string s) := by simp [WideAt.IsKeyLit]
theorem imap_store {w : World} {mp n : Nat} {ks : List (List UInt8)} (h : IMap w mp n ks) (hn : n < maxLen) (s : ByteArray) (hs : s.size ≤ maxLen) (hne : s.data.toList ∉ ks) (hl : (ks.length : Int) ≤ 9223372036854775807) :
    ∃ w', (Instr.mapUpdate 107 (.map (some mp)) (.string s) (.int .i64 ks.length)).run Tryz.prog w = .ok () w' ∧ IMap w' mp (n + 1) (ks ++ [s.data.toList]) ∧ w.grownBy w' (some mp) := by
  obtain ⟨D, h1, h2, h3, h4⟩ := h
  have hwf : (Lit.int .i64 (ks.length : Int)).wf = true := by
    have e1 : IntKind.i64.min = -9223372036854775808 := by decide
    have e2 : IntKind.i64.max = 9223372036854775807 := by decide
    simp only [Lit.wf, e1, e2, Bool.and_eq_true, decide_eq_true_eq]; omega
  obtain ⟨w', hrun, ho, hg⟩ := h1.update (string_keyed Tryz.underlying9) Tryz.underlying107 hn (val := .int .i64 ks.length) (d := litI ks.length) (ps := []) (WideMaps.keyOf_string_mk (P := Tryz.prog) Tryz.underlying9 hs) (plainElem_int Tryz.underlying3 hwf)
  refine ⟨w', hrun, ⟨_, ho, h2.put _ _, fun t => ?_, fun t => ?_⟩, hg⟩
  · by_cases ht : t = s.data.toList
    · subst ht
      rw [has_put_same h2 (key_lit _)]; simp
    · rw [has_put_other (fun e => ht (by injection e)), h3]
      simp [ht]
  · rw [idxOf_snoc _ _ _ hne]
    by_cases ht : t = s.data.toList
    · subst ht
      rw [atKey_put_same h2 (key_lit _)]; simp
    · rw [atKey_put_other (fun e => ht (by injection e)), h4]
      simp [ht]
end Go.Proofs.YtoncpeadbhgmaaaGreatDoor.G

namespace Go.Proofs.YtoncpeadbhgmaaaGreatDoor.G
open Go.RowKit
theorem run_store_float {P : Program} {w : World} {a : Addr} {m : Mode} (k : FloatKind) (b : Nat) : (store a (.float k b) m).run P w = stored P w a (.float k b) m := run_store P w a _ m rfl
attribute [go_sem] run_store_float
end Go.Proofs.YtoncpeadbhgmaaaGreatDoor.G

set_option linter.unusedVariables false
set_option linter.unusedSimpArgs false
namespace Go.Proofs.YtoncpeadbhgmaaaGreatDoor.G
open Go.RowKit Go.Sort Go.Proofs.YtoncpeadbhgmaaaGreatDoorW.PrintWords Go.Proofs.YtoncpeadbhgmaaaGreatDoorW.PrintLast Go.Proofs.YtoncpeadbhgmaaaGreatDoorW.PrintMore

theorem R_empty {α : Type} (d : Kd α) (e : Nat) (w : World) : d.R e (w.alloc (.cells #[] e)) w.heap.size (fun _ => True) (.slice (some ⟨w.heap.size, 0, none⟩) 0 0) [] := by
  refine ⟨fun _ _ => trivial, [], ?_, by simp, fun j p hj => by simp at hj⟩
  refine ⟨by simp, .inr ⟨w.heap.size, 0, #[], rfl, Nat.le_refl _, heap_alloc_new w _, Nat.le_refl _, by simp [maxLen], by simp, by simp⟩⟩

def slices_Clone_tocsin_api_Label_tocsin_api_Label.f (l0 : List S89) : Option (List S89) := if l0.length < 4398046511104 then some l0 else none
set_option maxHeartbeats 4000000 in
set_option maxRecDepth 100000 in
theorem slices_Clone_tocsin_api_Label_tocsin_api_Label.calls (A0 : Option Addr) (c0 : Nat) (l0 : List S89) (r : List S89) (w : World) (hr0 : Kd.C k89 w A0 l0.length l0) (hc0 : l0.length ≤ c0) (h : slices_Clone_tocsin_api_Label_tocsin_api_Label.f l0 = some r) :
    Calls Tryz.prog 74 #[.slice A0 l0.length c0] w fun e w' => ∃ v0_ : Value, e = .returned v0_ ∧ Kd.R k89 89 w' w.heap.size (fun _ => True) v0_ r ∧ Below w.heap.size w w' := by
  have hl : l0.length < 4398046511104 := by
    unfold slices_Clone_tocsin_api_Label_tocsin_api_Label.f at h
    split at h
    · assumption
    · cases h
  obtain rfl : l0 = r := by
    unfold slices_Clone_tocsin_api_Label_tocsin_api_Label.f at h
    rw [if_pos hl] at h; exact Option.some.inj h
  clear h
  cases A0 with
  | none =>
    have e0 : l0 = [] := by
      cases l0 with
      | nil => rfl
      | cons x l => obtain ⟨ad, e, _⟩ := at_T89 hr0 0 (by omega) (by simp); cases e
    subst e0
    have hn : ∀ W : World, (binOp .eql 39 (.slice none ([] : List S89).length c0) (.slice none 0 0)).run Tryz.prog W = .ok (.bool true) W := fun W => by rw [Lib.run_eql_slice_nil W _ _ _ _ _ _ _ Tryz.underlying39]; rfl
    simp only [List.length_nil] at hn
    go_enter Tryz.func74, Tryz.ntmps74
    go_wp2
    go_ret
    exact ⟨_, rfl, Kd.R_nil _ _ _ _ _, Below.refl _ _⟩
  | some a =>
    have hn : ∀ W : World, (binOp .eql 39 (.slice (some a) l0.length c0) (.slice none 0 0)).run Tryz.prog W = .ok (.bool false) W := fun W => by rw [Lib.run_eql_slice_nil W _ _ _ _ _ _ _ Tryz.underlying39]; rfl
    have HR0 := Aside0.mk hr0
    clear hr0
    have HB := Aside0.mk (below_alloc (Below.refl w.heap.size w) (.cells #[] 89))
    have HL := Aside0.mk hl
    clear hl
    go_enter Tryz.func74, Tryz.ntmps74
    go_wp2_with (first | (at_builtin; go_loud (refine Kd.R_append_rows k89 (w0 := w) w.heap.size rfl (.tmp 5) (.tmp 6) 39 89 (.agg #[(.string ⟨#[]⟩), (.string ⟨#[]⟩)]) 32 rfl Tryz.underlying39 info89 rfl (by decide) (by omega) (.slice (some ⟨w.heap.size, 0, none⟩) 0 0) ([] : List S89) l0 _ _ _ (fun _ => True) (fun _ => False) rfl rfl ?aO ?aR (fun _ _ h => h) (fun _ h => h.elim) ?aF ?aB ?aS ?aL ?_); (case aR => exact Kd.C_alloc HR0.out _); (case aB => exact HB.out); (case aF => exact (fun _ _ => trivial)); (case aO => exact R_empty _ _ _); (case aS => simp); (case aL => have := HL.out; simp; omega); intro v138 w3 ho hb hg hat; have HO := Aside0.mk ho; have HB1 := Aside0.mk hb; clear ho hb hg hat))
    go_ret
    exact ⟨_, rfl, HO.out, HB1.out⟩

def slices_Clone_string_string.f (l0 : List ByteArray) : Option (List ByteArray) := if l0.length < 8796093022208 then some l0 else none
set_option maxHeartbeats 4000000 in
set_option maxRecDepth 100000 in
theorem slices_Clone_string_string.calls (A0 : Option Addr) (c0 : Nat) (l0 : List ByteArray) (r : List ByteArray) (w : World) (hr0 : Kd.C Kd.string w A0 l0.length l0) (hc0 : l0.length ≤ c0) (h : slices_Clone_string_string.f l0 = some r) :
    Calls Tryz.prog 109 #[.slice A0 l0.length c0] w fun e w' => ∃ v0_ : Value, e = .returned v0_ ∧ Kd.R Kd.string 9 w' w.heap.size (fun _ => True) v0_ r ∧ Below w.heap.size w w' := by
  have hl : l0.length < 8796093022208 := by
    unfold slices_Clone_string_string.f at h
    split at h
    · assumption
    · cases h
  obtain rfl : l0 = r := by
    unfold slices_Clone_string_string.f at h
    rw [if_pos hl] at h; exact Option.some.inj h
  clear h
  cases A0 with
  | none =>
    have e0 : l0 = [] := by
      cases l0 with
      | nil => rfl
      | cons x l => obtain ⟨ad, e, _⟩ := Kd.at_string hr0 0 (by omega) (by simp); cases e
    subst e0
    have hn : ∀ W : World, (binOp .eql 23 (.slice none ([] : List ByteArray).length c0) (.slice none 0 0)).run Tryz.prog W = .ok (.bool true) W := fun W => by rw [Lib.run_eql_slice_nil W _ _ _ _ _ _ _ Tryz.underlying23]; rfl
    simp only [List.length_nil] at hn
    go_enter Tryz.func109, Tryz.ntmps109
    go_wp2
    go_ret
    exact ⟨_, rfl, Kd.R_nil _ _ _ _ _, Below.refl _ _⟩
  | some a =>
    have hn : ∀ W : World, (binOp .eql 23 (.slice (some a) l0.length c0) (.slice none 0 0)).run Tryz.prog W = .ok (.bool false) W := fun W => by rw [Lib.run_eql_slice_nil W _ _ _ _ _ _ _ Tryz.underlying23]; rfl
    have HR0 := Aside0.mk hr0
    clear hr0
    have HB := Aside0.mk (below_alloc (Below.refl w.heap.size w) (.cells #[] 9))
    have HL := Aside0.mk hl
    clear hl
    go_enter Tryz.func109, Tryz.ntmps109
    go_wp2_with (first | (at_builtin; go_loud (refine Kd.R_append_rows Kd.string (w0 := w) w.heap.size rfl (.tmp 5) (.tmp 6) 23 9 (.string ⟨#[]⟩) 16 rfl Tryz.underlying23 info9 rfl (by decide) (by omega) (.slice (some ⟨w.heap.size, 0, none⟩) 0 0) ([] : List ByteArray) l0 _ _ _ (fun _ => True) (fun _ => False) rfl rfl ?aO ?aR (fun _ _ h => h) (fun _ h => h.elim) ?aF ?aB ?aS ?aL ?_); (case aR => exact Kd.C_alloc HR0.out _); (case aB => exact HB.out); (case aF => exact (fun _ _ => trivial)); (case aO => exact R_empty _ _ _); (case aS => simp); (case aL => have := HL.out; simp; omega); intro v138 w3 ho hb hg hat; have HO := Aside0.mk ho; have HB1 := Aside0.mk hb; clear ho hb hg hat))
    go_ret
    exact ⟨_, rfl, HO.out, HB1.out⟩

end Go.Proofs.YtoncpeadbhgmaaaGreatDoor.G

namespace Go.Proofs.YtoncpeadbhgmaaaGreatDoor.G
open Go.RowKit Go.Proofs.YtoncpeadbhgmaaaGreatDoorW.PrintWords Go.Proofs.YtoncpeadbhgmaaaGreatDoorW.PrintLast Go.Proofs.YtoncpeadbhgmaaaGreatDoorW.PrintMore
attribute [local go_sem] max2_int min2_int max_two min_two max_three min_three max_four min_four   -- for this text's walks alone
set_option linter.unusedVariables false
set_option linter.unusedSimpArgs false

mutual
noncomputable def vec_Vector.l0 : Nat → List (S41) → List (S41) → Int → Int → Option ((List (S41)) × Int)
  | 0, _, _, _, _ => none
  | k + 1, x0, x15, x16, x17 => if x17 < x16 then (if 0 ≤ x17 then (if x17 < (x15.length : Int) then ((labels_Right.f k ((rd_T41 x15 x17).f0)).bind fun bt105 => (if bt105.1 = 0 then (vec_Vector.l0 k x0 x15 x16 (wrap64 (x17 + 1))) else (some (([] : List (S41)), 41)))) else (none)) else (none)) else (vec_Vector.l1 k ([] : List (S41)) x0 (x0.length : Int) 0)
noncomputable def vec_Vector.l1 : Nat → List (S41) → List (S41) → Int → Int → Option ((List (S41)) × Int)
  | 0, _, _, _, _ => none
  | k + 1, x8, x30, x31, x32 => if x32 < x31 then (if 0 ≤ x32 then (if x32 < (x30.length : Int) then ((slices_Clone_tocsin_api_Label_tocsin_api_Label.f ((rd_T41 x30 x32).f0)).bind fun t109 => (if x8.length < 4398046511104 then (vec_Vector.l1 k (x8 ++ [(⟨t109, (rd_T41 x30 x32).f1⟩ : S41)]) x30 x31 (wrap64 (x32 + 1))) else (none))) else (none)) else (none)) else (sortAll cmpPt x8 fun y8 => vec_Vector.l2 k y8 1)
noncomputable def vec_Vector.l2 : Nat → List (S41) → Int → Option ((List (S41)) × Int)
  | 0, _, _ => none
  | k + 1, x8, x11 => if x11 < (x8.length : Int) then (if 0 ≤ (wrap64 (x11 - 1)) then (if (wrap64 (x11 - 1)) < (x8.length : Int) then (if 0 ≤ x11 then ((labels_Compare.f ((rd_T41 x8 (wrap64 (x11 - 1))).f0) ((rd_T41 x8 x11).f0)).bind fun t117 => (if t117 = 0 then (some (([] : List (S41)), 150)) else (vec_Vector.l2 k x8 (wrap64 (x11 + 1))))) else (none)) else (none)) else (none)) else (some (x8, 0))
end
noncomputable def vec_Vector.f (k : Nat) (l0 : List (S41)) : Option ((List (S41)) × Int) := if (l0.length : Int) > 1000 then (some (([] : List (S41)), 7)) else (vec_Vector.l0 k l0 l0 (l0.length : Int) 0)
def vec_Vector.T14 : Bool × List (List Nat × List Nat) := (true, [([], []), ([], []), ([1], [1]), ([2], [2]), ([], []), ([4], [4]), ([3, 5], [3, 5]), ([6], [6]), ([0, 7, 3], [0, 7]), ([8, 8, 0, 1, 2, 3, 4, 5, 6, 7, 8], [0, 8])])
def vec_Vector.B14 : List Nat := [0, 0, 2, 6, 0, 16, 62, 126, 255, 511]
theorem vec_Vector.tab14 : rtab .any (opsOf Tryz.f27 14) = vec_Vector.T14 := by kernel_rfl
theorem vec_Vector.bits14 : waitsOk vec_Vector.T14.2 vec_Vector.B14 = true := by kernel_rfl
def vec_Vector.T20 : Bool × List (List Nat × List Nat) := (true, [([], []), ([], []), ([1], [1]), ([0, 2], [0, 2]), ([3], [3]), ([4], [4]), ([], []), ([], []), ([6, 7], [6, 7]), ([8], [8]), ([9], [9]), ([5, 10], [5, 10]), ([11], [11])])
def vec_Vector.B20 : List Nat := [0, 0, 2, 7, 15, 31, 0, 0, 192, 448, 960, 2047, 4095]
theorem vec_Vector.tab20 : rtab .any (opsOf Tryz.f27 20) = vec_Vector.T20 := by kernel_rfl
theorem vec_Vector.bits20 : waitsOk vec_Vector.T20.2 vec_Vector.B20 = true := by kernel_rfl
set_option maxHeartbeats 8000000 in
set_option maxRecDepth 100000 in
theorem vec_Vector.calls (k : Nat) (A0 : Option Addr) (c0 : Nat) (l0 : List (S41)) (r1 : List (S41)) (r2 : Int) (w : World) (hr0 : Kd.C k41 w A0 l0.length l0) (hc0 : l0.length ≤ c0) (hT : Tabs w) (h : vec_Vector.f k l0 = some (r1, r2)) :
    Calls Tryz.prog 27 #[.slice A0 l0.length c0] w fun e w' => ∃ v0_ : Value, e = .returned (.tuple #[v0_, .int .i64 r2]) ∧ Kd.R k41 41 w' w.heap.size (fun _ => True) v0_ r1 ∧ Below w.heap.size w w' := by
  have hu41 := Tryz.underlying41
  have HR0 := Aside0.mk hr0
  have HC0 := Aside0.mk hc0
  clear hr0 hc0
  have HT := Aside0.mk hT
  clear hT
  have HB := Aside0.mk (Below.refl w.heap.size w)
  have H : (if (l0.length : Int) > 1000 then (some (([] : List (S41)), 7)) else (vec_Vector.l0 k l0 l0 (l0.length : Int) 0)) = some (r1, r2) := h
  clear h
  by_cases c2 : (l0.length : Int) > 1000
  · rw [if_pos c2] at H
    have c2b0 : decide (1000 < (l0.length : Int)) = true := decide_eq_true c2
    have c2b1 : decide (1000 < l0.length) = true := decide_eq_true (by omega)
    clear c2
    simp only [Option.some.injEq, Prod.mk.injEq] at H
    obtain ⟨rfl, rfl⟩ := H
    go_enter Tryz.func27, Tryz.ntmps27
    go_wp2
    go_ret2
    exact ⟨_, by first | rfl | (simp [errW_none, errW_some] <;> rfl) | (simp [*, errW_none, errW_some] <;> rfl), by first | exact Kd.R_nil _ _ _ _ _ | exact Kd.N_nil _ _ _ _ _ | exact Kd.V_nil _ _ _ _ _ | exact Kd.Q_nil _ _ _ _ _ | exact Kd.S_nil _ _ _ _ _, by repeat (first | (with_reducible first | exact HB.out | apply below_alloc | apply pw_below_drewN | apply below_drew1) | exact HB.out)⟩
  · rw [if_neg c2] at H
    have c2b0 : decide (1000 < (l0.length : Int)) = false := decide_eq_false c2
    have c2b1 : decide (1000 < l0.length) = false := decide_eq_false (by omega)
    clear c2
    have H' := Aside0.mk H
    clear H
    go_enter Tryz.func27, Tryz.ntmps27
    go_wp2
    go_loopg [17] k (fun kq v17 w' => ∃ (x17_1 : Int), v17 = .int .i64 x17_1 ∧ Aside0 (vec_Vector.l0 kq l0 l0 (l0.length : Int) x17_1 = some (r1, r2)) ∧ Aside0 (kq ≤ k) ∧ Aside0 (Below w.heap.size w w'))
    case atStart => exact ⟨(0), (by first | rfl | (simp; done) | (simp [*]; done)), H', ⟨Nat.le_refl _⟩, ⟨by repeat (first | (with_reducible first | exact HB.out | apply below_alloc | apply pw_below_drewN | apply below_drew1) | exact HB.out)⟩⟩
    case round =>
      clear H'
      try clear c2
      try clear c2b0
      try clear c2b1
      try clear p2
      obtain ⟨x17_1, rfl, HA, HK1, HB⟩ := hrel
      cases gk with
      | zero => exact absurd HA.out (by simp [vec_Vector.l0])
      | succ k1 =>
        have H := HA.out
        clear HA
        simp only [vec_Vector.l0] at H
        by_cases c3 : x17_1 < (l0.length : Int)
        · rw [if_pos c3] at H
          have c3b0 : decide (x17_1 < (l0.length : Int)) = true := decide_eq_true c3
          clear c3
          by_cases c4 : 0 ≤ x17_1
          · rw [if_pos c4] at H
            have c4b0 : decide (0 ≤ x17_1) = true := decide_eq_true c4
            clear c4
            by_cases c5 : x17_1 < (l0.length : Int)
            · rw [if_pos c5] at H
              have c5b0 : decide (x17_1 < (l0.length : Int)) = true := decide_eq_true c5
              clear c5
              replace H := Option.bind_eq_some_iff.mp H
              obtain ⟨⟨t105, t106⟩, A60, H⟩ := H
              replace H : (if t105 = 0 then (vec_Vector.l0 k1 l0 l0 (l0.length : Int) (wrap64 (x17_1 + 1))) else (some (([] : List (S41)), 41))) = some (r1, r2) := H
              have A6 := Aside0.mk A60
              clear A60
              by_cases c7 : t105 = 0
              · rw [if_pos c7] at H
                have c7b0 : (t105 == 0) = true := beq_iff_eq.mpr c7
                have c7b1 : (t105 != 0) = false := bne_eq_false_iff_eq.mpr c7
                clear c7
                have H' := Aside0.mk H
                clear H
                have p103 : 0 ≤ (x17_1 : Int) := of_decide_eq_true (by first | (with_reducible assumption) | assumption)
                have q103 : x17_1 < (l0.length : Int) := of_decide_eq_true (by first | (with_reducible assumption) | assumption)
                obtain ⟨ad103, A103_0, c103_0, e103, hx103_0, hx103_1, hl103_0, hi103_0⟩ := at_T41 HR0.out x17_1 p103 q103
                cases e103
                replace hx103_0 := (HB.out.cell (World.block_lt_of_cell? w _ hx103_0)).trans hx103_0
                replace hx103_1 := (HB.out.cell (World.block_lt_of_cell? w _ hx103_1)).trans hx103_1
                have HR103_0 := Aside0.mk hi103_0
                have HC103_0 := Aside0.mk hl103_0
                clear hi103_0 hl103_0
                replace p103 := eq_true p103
                replace q103 := eq_true q103
                go_wp2_with (first | ((with_reducible refine gate_dst (N := 5) rfl ?_); refine box_event ?hg (N := 5) ?hd (cs := #[.slice none 0 0, .float .f64 (0 : Nat)]) (t := 41) ?hr ?_; (case hd => rfl); (case hg => rfl); (case hr => first | (go_simp; done) | (go_simp; rfl)); intro gb104 hg w8 hbox hb; have n0_ := Aside0.mk (below_step (by repeat (first | (with_reducible first | exact HB.out | apply below_alloc | apply pw_below_drewN | apply below_drew1) | exact HB.out)) hb); have n1_ := Aside0.mk (hbox); have n2_ := Aside0.mk ((by rw [hg]; exact (below_size (by repeat (first | (with_reducible first | exact HB.out | apply below_alloc | apply pw_below_drewN | apply below_drew1) | exact HB.out))) : w.heap.size ≤ gb104)); have n3_ := Aside0.mk ((by rw [hg]; exact (below_size (by repeat (first | (with_reducible first | exact HB.out | apply below_alloc | apply pw_below_drewN | apply below_drew1) | exact HB.out))) : w.heap.size ≤ gb104)); clear HB; have HB := n0_; have BK104 := n1_; have GW104 := n2_; have GE104 := n3_; clear n0_ n1_ n2_ n3_; clear hb hbox hg; have hcz9_0 : w8.cell? ⟨gb104, 0, none⟩ = some (.slice none 0 0) := (blk_cell BK104.out 0).trans rfl; have hcz9_1 : w8.cell? ⟨gb104, 1, none⟩ = some (.float .f64 (0 : Nat)) := (blk_cell BK104.out 1).trans rfl; have hfz9_0 := blk_frozen BK104.out 0; have hfz9_1 := blk_frozen BK104.out 1) | ((with_reducible refine gate_callee (f := 73) rfl ?_); refine goesL_ (some 24) rfl rfl Tryz.func73 (by kernel_rfl) rfl #[.slice A103_0 ((rd_T41 l0 x17_1).f0).length c103_0] rfl (by (try simp only [List.map_toArray, List.map_cons, List.map_nil]); first | done | rfl | (simp only [List.length_drop, List.length_take]; rfl)) ?_; (with_reducible refine (labels_Right.calls k1 _ _ ((rd_T41 l0 x17_1).f0) t105 t106 _ ?side1 ?side2 ?side3 A6.out).mono ?_); (case side1 => exact Kd.C_below HR103_0.out (by repeat (first | (with_reducible first | exact HB.out | apply below_alloc | apply pw_below_drewN | apply below_drew1 | refine below_set ?_ GE104.out) | exact HB.out))); (case side2 => exact HC103_0.out); (case side3 => first | exact HT.out | exact tabs_below HT.out (by repeat (first | (with_reducible first | exact HB.out | apply below_alloc | apply pw_below_drewN | apply below_drew1 | refine below_set ?_ GE104.out) | exact HB.out))); rintro e w10 ⟨rfl, hb⟩; refine ⟨_, rfl, ?_⟩; have n0_ := Aside0.mk (blk_below (g := gb104) (o := .cells #[.slice A103_0 ((rd_T41 l0 x17_1).f0).length c103_0, .float .f64 ((rd_T41 l0 x17_1).f1)] 41 (0, 0)) (by (with_reducible repeat (first | refine blk_drewN ?_ _ | refine blk_drew ?_ | refine blk_alloc ?_ _)); refine blk_put (cs := #[.slice A103_0 ((rd_T41 l0 x17_1).f0).length c103_0, .float .f64 (0 : Nat)]) ?_ 1 _ rfl; (with_reducible repeat (first | refine blk_drewN ?_ _ | refine blk_drew ?_ | refine blk_alloc ?_ _)); refine blk_put (cs := #[.slice none 0 0, .float .f64 (0 : Nat)]) ?_ 0 _ rfl; (with_reducible repeat (first | refine blk_drewN ?_ _ | refine blk_drew ?_ | refine blk_alloc ?_ _)); exact BK104.out) hb); have n1_ := Aside0.mk (below_step (by repeat (first | (with_reducible first | exact HB.out | apply below_alloc | apply pw_below_drewN | apply below_drew1 | refine below_set ?_ GE104.out) | exact HB.out)) hb); clear BK104; clear HB; have BK104 := n0_; have HB := n1_; clear n0_ n1_; (try clear hb); (try clear hb2); (try clear hk); (try clear hi)))
                go_roundg k1
                case measure => have := HK1.out; omega
                case rel => exact ⟨(wrap64 (x17_1 + 1)), (by first | rfl | (simp; done) | (simp [*]; done)), H', ⟨by have := HK1.out; omega⟩, ⟨by repeat (first | (with_reducible first | exact HB.out | apply below_alloc | apply pw_below_drewN | apply below_drew1 | refine below_set ?_ GE104.out) | exact HB.out)⟩⟩
              · rw [if_neg c7] at H
                have c7b0 : (t105 == 0) = false := beq_eq_false_iff_ne.mpr c7
                have c7b1 : (t105 != 0) = true := bne_iff_ne.mpr c7
                simp only [Option.some.injEq, Prod.mk.injEq] at H
                obtain ⟨rfl, rfl⟩ := H
                have p103 : 0 ≤ (x17_1 : Int) := of_decide_eq_true (by first | (with_reducible assumption) | assumption)
                have q103 : x17_1 < (l0.length : Int) := of_decide_eq_true (by first | (with_reducible assumption) | assumption)
                obtain ⟨ad103, A103_0, c103_0, e103, hx103_0, hx103_1, hl103_0, hi103_0⟩ := at_T41 HR0.out x17_1 p103 q103
                cases e103
                replace hx103_0 := (HB.out.cell (World.block_lt_of_cell? w _ hx103_0)).trans hx103_0
                replace hx103_1 := (HB.out.cell (World.block_lt_of_cell? w _ hx103_1)).trans hx103_1
                have HR103_0 := Aside0.mk hi103_0
                have HC103_0 := Aside0.mk hl103_0
                clear hi103_0 hl103_0
                replace p103 := eq_true p103
                replace q103 := eq_true q103
                go_wp2_with (first | ((with_reducible refine gate_dst (N := 5) rfl ?_); refine box_event ?hg (N := 5) ?hd (cs := #[.slice none 0 0, .float .f64 (0 : Nat)]) (t := 41) ?hr ?_; (case hd => rfl); (case hg => rfl); (case hr => first | (go_simp; done) | (go_simp; rfl)); intro gb104 hg w11 hbox hb; have n0_ := Aside0.mk (below_step (by repeat (first | (with_reducible first | exact HB.out | apply below_alloc | apply pw_below_drewN | apply below_drew1) | exact HB.out)) hb); have n1_ := Aside0.mk (hbox); have n2_ := Aside0.mk ((by rw [hg]; exact (below_size (by repeat (first | (with_reducible first | exact HB.out | apply below_alloc | apply pw_below_drewN | apply below_drew1) | exact HB.out))) : w.heap.size ≤ gb104)); have n3_ := Aside0.mk ((by rw [hg]; exact (below_size (by repeat (first | (with_reducible first | exact HB.out | apply below_alloc | apply pw_below_drewN | apply below_drew1) | exact HB.out))) : w.heap.size ≤ gb104)); clear HB; have HB := n0_; have BK104 := n1_; have GW104 := n2_; have GE104 := n3_; clear n0_ n1_ n2_ n3_; clear hb hbox hg; have hcz12_0 : w11.cell? ⟨gb104, 0, none⟩ = some (.slice none 0 0) := (blk_cell BK104.out 0).trans rfl; have hcz12_1 : w11.cell? ⟨gb104, 1, none⟩ = some (.float .f64 (0 : Nat)) := (blk_cell BK104.out 1).trans rfl; have hfz12_0 := blk_frozen BK104.out 0; have hfz12_1 := blk_frozen BK104.out 1) | ((with_reducible refine gate_callee (f := 73) rfl ?_); refine goesL_ (some 24) rfl rfl Tryz.func73 (by kernel_rfl) rfl #[.slice A103_0 ((rd_T41 l0 x17_1).f0).length c103_0] rfl (by (try simp only [List.map_toArray, List.map_cons, List.map_nil]); first | done | rfl | (simp only [List.length_drop, List.length_take]; rfl)) ?_; (with_reducible refine (labels_Right.calls k1 _ _ ((rd_T41 l0 x17_1).f0) t105 t106 _ ?side1 ?side2 ?side3 A6.out).mono ?_); (case side1 => exact Kd.C_below HR103_0.out (by repeat (first | (with_reducible first | exact HB.out | apply below_alloc | apply pw_below_drewN | apply below_drew1 | refine below_set ?_ GE104.out) | exact HB.out))); (case side2 => exact HC103_0.out); (case side3 => first | exact HT.out | exact tabs_below HT.out (by repeat (first | (with_reducible first | exact HB.out | apply below_alloc | apply pw_below_drewN | apply below_drew1 | refine below_set ?_ GE104.out) | exact HB.out))); rintro e w13 ⟨rfl, hb⟩; refine ⟨_, rfl, ?_⟩; have n0_ := Aside0.mk (blk_below (g := gb104) (o := .cells #[.slice A103_0 ((rd_T41 l0 x17_1).f0).length c103_0, .float .f64 ((rd_T41 l0 x17_1).f1)] 41 (0, 0)) (by (with_reducible repeat (first | refine blk_drewN ?_ _ | refine blk_drew ?_ | refine blk_alloc ?_ _)); refine blk_put (cs := #[.slice A103_0 ((rd_T41 l0 x17_1).f0).length c103_0, .float .f64 (0 : Nat)]) ?_ 1 _ rfl; (with_reducible repeat (first | refine blk_drewN ?_ _ | refine blk_drew ?_ | refine blk_alloc ?_ _)); refine blk_put (cs := #[.slice none 0 0, .float .f64 (0 : Nat)]) ?_ 0 _ rfl; (with_reducible repeat (first | refine blk_drewN ?_ _ | refine blk_drew ?_ | refine blk_alloc ?_ _)); exact BK104.out) hb); have n1_ := Aside0.mk (below_step (by repeat (first | (with_reducible first | exact HB.out | apply below_alloc | apply pw_below_drewN | apply below_drew1 | refine below_set ?_ GE104.out) | exact HB.out)) hb); clear BK104; clear HB; have BK104 := n0_; have HB := n1_; clear n0_ n1_; (try clear hb); (try clear hb2); (try clear hk); (try clear hi)))
                go_ret2
                exact ⟨_, by first | rfl | (simp [errW_none, errW_some] <;> rfl) | (simp [*, errW_none, errW_some] <;> rfl), by first | exact Kd.R_nil _ _ _ _ _ | exact Kd.N_nil _ _ _ _ _ | exact Kd.V_nil _ _ _ _ _ | exact Kd.Q_nil _ _ _ _ _ | exact Kd.S_nil _ _ _ _ _, by repeat (first | (with_reducible first | exact HB.out | apply below_alloc | apply pw_below_drewN | apply below_drew1 | refine below_set ?_ GE104.out) | exact HB.out)⟩
            · rw [if_neg c5] at H
              exact absurd H (by simp)
          · rw [if_neg c4] at H
            exact absurd H (by simp)
        · rw [if_neg c3] at H
          have c3b0 : decide (x17_1 < (l0.length : Int)) = false := decide_eq_false c3
          clear c3
          have H' := Aside0.mk H
          clear H
          go_wp2
          go_loopg [8, 32] k1 (fun kq v8 v32 w' => ∃ (x8_2 : List (S41)) (x32_2 : Int), v32 = .int .i64 x32_2 ∧ Aside0 (vec_Vector.l1 kq x8_2 l0 (l0.length : Int) x32_2 = some (r1, r2)) ∧ Aside0 (kq ≤ k1) ∧ Aside0 (Kd.R k41 41 w' w.heap.size (fun _ => True) v8 x8_2) ∧ Aside0 (Below w.heap.size w w'))
          case atStart => exact ⟨(([] : List (S41))), (0), (by first | rfl | (simp; done) | (simp [*]; done)), H', ⟨Nat.le_refl _⟩, ⟨by first | exact Kd.R_nil _ _ _ _ _ | exact Kd.N_nil _ _ _ _ _ | exact Kd.V_nil _ _ _ _ _ | exact Kd.Q_nil _ _ _ _ _ | exact Kd.S_nil _ _ _ _ _⟩, ⟨by repeat (first | (with_reducible first | exact HB.out | apply below_alloc | apply pw_below_drewN | apply below_drew1) | exact HB.out)⟩⟩
          case round =>
            clear H'
            try clear c1
            try clear p1
            try clear q1
            try clear hx1
            try clear c2
            try clear c2b0
            try clear c2b1
            try clear p2
            try clear c3
            try clear c3b0
            try clear c4
            try clear c4b0
            try clear c5
            try clear c5b0
            try clear p6
            try clear c7
            try clear c7b0
            try clear c7b1
            try clear c10
            try clear p10
            try clear q10
            try clear hx10
            try clear hcz12_0
            try clear hcz12_1
            try clear hcz9_0
            try clear hcz9_1
            try clear hfz12_0
            try clear hfz12_1
            try clear hfz9_0
            try clear hfz9_1
            try clear hx103_0
            try clear hx103_1
            try clear p103
            try clear p2
            try clear q103
            obtain ⟨x8_2, x32_2, rfl, HA, HK2, HO_8, HB⟩ := hrel
            cases gk with
            | zero => exact absurd HA.out (by simp [vec_Vector.l1])
            | succ k2 =>
              have H := HA.out
              clear HA
              simp only [vec_Vector.l1] at H
              by_cases c14 : x32_2 < (l0.length : Int)
              · rw [if_pos c14] at H
                have c14b0 : decide (x32_2 < (l0.length : Int)) = true := decide_eq_true c14
                clear c14
                by_cases c15 : 0 ≤ x32_2
                · rw [if_pos c15] at H
                  have c15b0 : decide (0 ≤ x32_2) = true := decide_eq_true c15
                  clear c15
                  by_cases c16 : x32_2 < (l0.length : Int)
                  · rw [if_pos c16] at H
                    have c16b0 : decide (x32_2 < (l0.length : Int)) = true := decide_eq_true c16
                    clear c16
                    replace H := Option.bind_eq_some_iff.mp H
                    obtain ⟨t109, A170, H⟩ := H
                    replace H : (if x8_2.length < 4398046511104 then (vec_Vector.l1 k2 (x8_2 ++ [(⟨t109, (rd_T41 l0 x32_2).f1⟩ : S41)]) l0 (l0.length : Int) (wrap64 (x32_2 + 1))) else (none)) = some (r1, r2) := H
                    have A17 := Aside0.mk A170
                    clear A170
                    by_cases c18 : x8_2.length < 4398046511104
                    · rw [if_pos c18] at H
                      have LMc18 := Aside0.mk c18
                      clear c18
                      obtain ⟨y112, hy112⟩ : ∃ y_ : List (S41), y_ = (x8_2 ++ [(⟨t109, (rd_T41 l0 x32_2).f1⟩ : S41)]) := ⟨_, rfl⟩
                      replace H : (vec_Vector.l1 k2 y112 l0 (l0.length : Int) (wrap64 (x32_2 + 1))) = some (r1, r2) := by first | (rw [hy112]; with_reducible exact H) | (have H2_ := (Option.bind_some _ _).symm.trans H; rw [hy112]; with_reducible exact H2_) | (have H2_ := (Option.bind_some _ _).symm.trans H; with_reducible exact H2_) | with_reducible exact H | (rw [hy112]; exact H) | exact H
                      have Ny112 := Aside0.mk hy112
                      clear hy112
                      have H' := Aside0.mk H
                      clear H
                      have p107 : 0 ≤ (x32_2 : Int) := of_decide_eq_true (by first | (with_reducible assumption) | assumption)
                      have q107 : x32_2 < (l0.length : Int) := of_decide_eq_true (by first | (with_reducible assumption) | assumption)
                      obtain ⟨ad107, A107_0, c107_0, e107, hx107_0, hx107_1, hl107_0, hi107_0⟩ := at_T41 HR0.out x32_2 p107 q107
                      cases e107
                      replace hx107_0 := (HB.out.cell (World.block_lt_of_cell? w _ hx107_0)).trans hx107_0
                      replace hx107_1 := (HB.out.cell (World.block_lt_of_cell? w _ hx107_1)).trans hx107_1
                      have HR107_0 := Aside0.mk hi107_0
                      have HC107_0 := Aside0.mk hl107_0
                      clear hi107_0 hl107_0
                      replace p107 := eq_true p107
                      replace q107 := eq_true q107
                      try go_wp2_with (first | ((with_reducible refine gate_dst (N := 10) rfl ?_); refine box_event ?hg (N := 10) ?hd (cs := #[.slice none 0 0, .float .f64 (0 : Nat)]) (t := 41) ?hr ?_; (case hd => rfl); (case hg => rfl); (case hr => first | (go_simp; done) | (go_simp; rfl)); intro gb108 hg w19 hbox hb; have n0_ := Aside0.mk (Kd.R_below (Kd.R_elderB (by (with_reducible repeat (first | apply Kd.R_alloc | apply Kd.R_drewN | apply Kd.R_drew)); exact HO_8.out) gb108 (Nat.le_of_eq hg.symm)) hb); have n1_ := Aside0.mk (below_step (by repeat (first | (with_reducible first | exact HB.out | apply below_alloc | apply pw_below_drewN | apply below_drew1) | exact HB.out)) hb); have n2_ := Aside0.mk (hbox); have n3_ := Aside0.mk ((by rw [hg]; exact (below_size (by repeat (first | (with_reducible first | exact HB.out | apply below_alloc | apply pw_below_drewN | apply below_drew1) | exact HB.out))) : w.heap.size ≤ gb108)); have n4_ := Aside0.mk ((by rw [hg]; exact (below_size (by repeat (first | (with_reducible first | exact HB.out | apply below_alloc | apply pw_below_drewN | apply below_drew1) | exact HB.out))) : w.heap.size ≤ gb108)); clear HO_8; clear HB; have HO_8 := n0_; have HB := n1_; have BK108 := n2_; have GW108 := n3_; have GE108 := n4_; clear n0_ n1_ n2_ n3_ n4_; clear hb hbox hg; have hcz20_0 : w19.cell? ⟨gb108, 0, none⟩ = some (.slice none 0 0) := (blk_cell BK108.out 0).trans rfl; have hcz20_1 : w19.cell? ⟨gb108, 1, none⟩ = some (.float .f64 (0 : Nat)) := (blk_cell BK108.out 1).trans rfl; have hfz20_0 := blk_frozen BK108.out 0; have hfz20_1 := blk_frozen BK108.out 1))
                      have n0_ : Aside0 (Kd.R k41 41 ((w19.setCell ⟨gb108, 0, none⟩ (.slice A107_0 ((rd_T41 l0 x32_2).f0).length c107_0)).setCell ⟨gb108, 1, none⟩ (.float .f64 ((rd_T41 l0 x32_2).f1))) w.heap.size (fun k_ => k_ ≠ gb108) u8 x8_2) := ⟨by (with_reducible repeat (first | apply Kd.R_alloc | apply Kd.R_drewN | apply Kd.R_drew)); exact Kd.R_mono (Kd.R_far (p := ⟨gb108, 1, none⟩) (Kd.R_far (p := ⟨gb108, 0, none⟩) (Kd.R_mono HO_8.out (fun k_ hk => (⟨hk, hk.2⟩ : _ ∧ k_ ≠ gb108))) (fun _ hk => hk.2) (.slice A107_0 ((rd_T41 l0 x32_2).f0).length c107_0)) (fun _ hk => hk.2) (.float .f64 ((rd_T41 l0 x32_2).f1))) (fun _ hk => hk.1.2)⟩
                      have n1_ : Aside0 (((w19.setCell ⟨gb108, 0, none⟩ (.slice A107_0 ((rd_T41 l0 x32_2).f0).length c107_0)).setCell ⟨gb108, 1, none⟩ (.float .f64 ((rd_T41 l0 x32_2).f1))).heap[gb108]? = some (.cells #[.slice A107_0 ((rd_T41 l0 x32_2).f0).length c107_0, .float .f64 ((rd_T41 l0 x32_2).f1)] 41 (0, 0))) := ⟨by (with_reducible repeat (first | refine blk_drewN ?_ _ | refine blk_drew ?_ | refine blk_alloc ?_ _)); refine blk_put (cs := #[.slice A107_0 ((rd_T41 l0 x32_2).f0).length c107_0, .float .f64 (0 : Nat)]) ?_ 1 _ rfl; (with_reducible repeat (first | refine blk_drewN ?_ _ | refine blk_drew ?_ | refine blk_alloc ?_ _)); refine blk_put (cs := #[.slice none 0 0, .float .f64 (0 : Nat)]) ?_ 0 _ rfl; (with_reducible repeat (first | refine blk_drewN ?_ _ | refine blk_drew ?_ | refine blk_alloc ?_ _)); exact BK108.out⟩
                      have n2_ : Aside0 (Below w.heap.size w ((w19.setCell ⟨gb108, 0, none⟩ (.slice A107_0 ((rd_T41 l0 x32_2).f0).length c107_0)).setCell ⟨gb108, 1, none⟩ (.float .f64 ((rd_T41 l0 x32_2).f1)))) := ⟨by repeat (first | (with_reducible first | exact HB.out | apply below_alloc | apply pw_below_drewN | apply below_drew1 | refine below_set ?_ GE108.out) | exact HB.out)⟩
                      (try clear HO_8)
                      (try clear BK108)
                      (try clear HB)
                      generalize ((w19.setCell ⟨gb108, 0, none⟩ (.slice A107_0 ((rd_T41 l0 x32_2).f0).length c107_0)).setCell ⟨gb108, 1, none⟩ (.float .f64 ((rd_T41 l0 x32_2).f1))) = w21 at n0_ n1_ n2_ ⊢
                      have HO_8 := n0_
                      have BK108 := n1_
                      have HB := n2_
                      clear n0_ n1_ n2_
                      have n0_ := Aside0.mk (Kd.R_drew HO_8.out)
                      have n1_ := Aside0.mk (blk_drew BK108.out)
                      have n2_ := Aside0.mk (below_drew1 HB.out)
                      clear HO_8
                      clear BK108
                      clear HB
                      have HO_8 := n0_
                      have BK108 := n1_
                      have HB := n2_
                      clear n0_ n1_ n2_
                      refine start_ (n := 10) (S := fun w' => w'.cell? ⟨gb108, 0, none⟩ = some (.slice A107_0 ((rd_T41 l0 x32_2).f0).length c107_0) ∧ w'.cell? ⟨gb108, 1, none⟩ = some (.float .f64 ((rd_T41 l0 x32_2).f1))) (ds := []) #[false, false, false, false, false, false, false, false, false, false] (by kernel_rfl) rfl rfl ⟨(blk_cell BK108.out 0).trans rfl, (blk_cell BK108.out 1).trans rfl⟩ (fun hHeld => ?_); refine with_tabW vec_Vector.tab14 vec_Vector.bits14 (fun HT_ HW_ => ?_)
                      generalize w21.drew = w22 at HO_8 BK108 HB hHeld ⊢
                      refine pure_ (i := 0) (N := some 36) (v := ?_) (a' := ?_) #[true, false, false, false, false, false, false, false, false, false] rfl rfl (any_of HT_.out (by kernel_rfl)) (fun _ _ _ h => h) (Or.inl ⟨by rfl, ?_⟩) ?_ ?_
                      rotate_left
                      · intro w'
                        go_simp
                        with_reducible rfl
                      rotate_left
                      · simp only [Act.put, List.setIfInBounds_toArray, List.set_cons_zero, List.set_cons_succ, i64_w, i32_w]
                        rfl
                      refine pure_ (i := 1) (N := some 37) (v := ?_) (a' := ?_) #[true, true, false, false, false, false, false, false, false, false] rfl rfl (any_of HT_.out (by kernel_rfl)) (fun _ _ _ h => h) (Or.inl ⟨by rfl, ?_⟩) ?_ ?_
                      rotate_left
                      · intro w'
                        go_simp
                        with_reducible rfl
                      rotate_left
                      · simp only [Act.put, List.setIfInBounds_toArray, List.set_cons_zero, List.set_cons_succ, i64_w, i32_w]
                        rfl
                      refine pure_ (i := 4) (N := some 40) (v := ?_) (a' := ?_) #[true, true, false, false, true, false, false, false, false, false] rfl rfl (any_of HT_.out (by kernel_rfl)) (fun _ _ _ h => h) (Or.inl ⟨by rfl, ?_⟩) ?_ ?_
                      rotate_left
                      · intro w'
                        go_simp
                        with_reducible rfl
                      rotate_left
                      · simp only [Act.put, List.setIfInBounds_toArray, List.set_cons_zero, List.set_cons_succ, i64_w, i32_w]
                        rfl
                      refine take_ (i := 2) (N := some 38) (v := ?_) (a' := ?_) #[true, true, true, false, true, false, false, false, false, false] rfl rfl (take_ofW HT_.out HW_.out (by kernel_rfl)) (fun _ _ _ h => h) (Or.inl ⟨by rfl, ?_⟩) hHeld ?_ ?_
                      rotate_left
                      · rintro w' ⟨s0, s1⟩
                        go_simp
                        with_reducible rfl
                      rotate_left
                      · simp only [Act.put, List.setIfInBounds_toArray, List.set_cons_zero, List.set_cons_succ, i64_w, i32_w]
                        rfl
                      refine take_ (i := 5) (N := some 41) (v := ?_) (a' := ?_) #[true, true, true, false, true, true, false, false, false, false] rfl rfl (take_ofW HT_.out HW_.out (by kernel_rfl)) (fun _ _ _ h => h) (Or.inl ⟨by rfl, ?_⟩) hHeld ?_ ?_
                      rotate_left
                      · rintro w' ⟨s0, s1⟩
                        go_simp
                        with_reducible rfl
                      rotate_left
                      · simp only [Act.put, List.setIfInBounds_toArray, List.set_cons_zero, List.set_cons_succ, i64_w, i32_w]
                        rfl
                      refine one_ (i := 3) (N := some 39) #[true, true, true, true, true, true, false, false, false, false] rfl rfl (one_of HT_.out (by kernel_rfl)) (by decide) (fun K hK => ?_)
                      refine goes_ Tryz.func74 (by kernel_rfl) rfl #[.slice A107_0 ((rd_T41 l0 x32_2).f0).length c107_0] (by rfl) rfl rfl (by (try simp only [List.map_toArray, List.map_cons, List.map_nil]); first | done | rfl | (simp only [List.length_drop, List.length_take]; rfl)) ?_
                      with_reducible refine (slices_Clone_tocsin_api_Label_tocsin_api_Label.calls _ _ ((rd_T41 l0 x32_2).f0) t109 _ ?side1 ?side2 A17.out).mono ?_
                      (case side1 => repeat (first | exact (Kd.C_below HR107_0.out HB.out) | (with_reducible refine Kd.C_alloc ?_ _) | (with_reducible refine Kd.C_drewN ?_ _) | (with_reducible refine Kd.C_drew ?_)))
                      (case side2 => exact HC107_0.out)
                      rintro e w23 ⟨v110, rfl, ho0, hb⟩
                      refine ⟨_, rfl, ?_⟩
                      have n0_ := Aside0.mk (Kd.R_elder' (by (with_reducible repeat (first | apply Kd.R_alloc | apply Kd.R_drewN | apply Kd.R_drew)); exact HO_8.out) (Kd.R_base ho0) hb)
                      have n1_ := Aside0.mk (Kd.R_lower ho0 (below_size (by repeat (first | (with_reducible first | exact HB.out | apply below_alloc | apply pw_below_drewN | apply below_drew1 | refine below_set ?_ GE108.out) | exact HB.out))))
                      have n2_ := Aside0.mk (blk_below (g := gb108) (o := .cells #[.slice A107_0 ((rd_T41 l0 x32_2).f0).length c107_0, .float .f64 ((rd_T41 l0 x32_2).f1)] 41 (0, 0)) (by (with_reducible repeat (first | refine blk_drewN ?_ _ | refine blk_drew ?_ | refine blk_alloc ?_ _)); exact BK108.out) hb)
                      have n3_ := Aside0.mk (below_step (by repeat (first | (with_reducible first | exact HB.out | apply below_alloc | apply pw_below_drewN | apply below_drew1 | refine below_set ?_ GE108.out) | exact HB.out)) hb)
                      clear HO_8
                      clear BK108
                      clear HB
                      have HO_8 := n0_
                      have HO111 := n1_
                      have BK108 := n2_
                      have HB := n3_
                      clear n0_ n1_ n2_ n3_
                      (try clear hb)
                      (try clear hb2)
                      (try clear hk)
                      (try clear hi)
                      (try clear ho0)
                      obtain ⟨Ao24, co24, eo24⟩ := Kd.R_slice HO111.out
                      (first | subst eo24 | (injection eo24 with f1_ f2_ f3_; have f4_ := f1_.symm; have f5_ := f3_.symm; clear f1_ f2_ f3_; subst f4_; subst f5_))
                      refine hK.out _ _ ⟨(blk_cell BK108.out 0).trans rfl, (blk_cell BK108.out 1).trans rfl⟩ (fun hHeld => ?_)
                      clear hK K
                      refine norm_ (a' := ?_) ?_ ?_
                      rotate_left
                      · show Act.put _ (some 39) _ = _
                        simp only [Act.put, List.setIfInBounds_toArray, List.set_cons_zero, List.set_cons_succ, i64_w, i32_w]
                        rfl
                      refine pure_ (i := 6) (N := some 42) (v := ?_) (a' := ?_) #[true, true, true, true, true, true, true, false, false, false] rfl rfl (any_of HT_.out (by kernel_rfl)) (fun _ _ _ h => h) (Or.inl ⟨by rfl, ?_⟩) ?_ ?_
                      rotate_left
                      · intro w'
                        go_simp
                        with_reducible rfl
                      rotate_left
                      · simp only [Act.put, List.setIfInBounds_toArray, List.set_cons_zero, List.set_cons_succ, i64_w, i32_w]
                        rfl
                      refine one_ (i := 7) (N := some 43) #[true, true, true, true, true, true, true, true, false, false] rfl rfl (one_of HT_.out (by kernel_rfl)) (by decide) (fun K hK => ?_)
                      refine value_ (w1 := ?_) (v := ?_) (by rfl) rfl ?_ ?_
                      rotate_left 2
                      · go_simp
                        constructor
                        · rfl
                        · rfl
                      refine hK.out _ _ ⟨(blk_cell (blk_alloc BK108.out _) 0).trans rfl, (blk_cell (blk_alloc BK108.out _) 1).trans rfl⟩ (fun hHeld => ?_)
                      clear hK K
                      refine norm_ (a' := ?_) ?_ ?_
                      rotate_left
                      · show Act.put _ (some 43) _ = _
                        simp only [Act.put, List.setIfInBounds_toArray, List.set_cons_zero, List.set_cons_succ, i64_w, i32_w]
                        rfl
                      refine one_ (i := 8) (N := some 44) #[true, true, true, true, true, true, true, true, true, false] rfl rfl (one_of HT_.out (by kernel_rfl)) (by decide) (fun K hK => ?_)
                      refine Kd.R_append_step k41 (w0 := w) w.heap.size (by rfl) (.tmp 36) (.tmp 43) 22 41 (.agg #[(.slice none 0 0), (.float .f64 0)]) 32 rfl Tryz.underlying22 info41 rfl (by decide) (by omega) u8 x8_2 (⟨t109, (rd_T41 l0 x32_2).f1⟩ : S41) [.slice Ao24 t109.length co24, .float .f64 ((rd_T41 l0 x32_2).f1)] (fun k_ => k_ ≠ gb108) (fun k_ => ((fun k_ => k_ ≠ gb108)) k_ ∧ some k_ ≠ (u8 : Value).ownBlock) rfl rfl ?aP (fun _ hk => hk) ?aF ?aO ?aB ?aS ?aL ?_
                      (case aP => exact k41_mkM _ _ _ (⟨t109, (rd_T41 l0 x32_2).f1⟩ : S41) (Kd.R_mono (Kd.R_types (Kd.R_apart' (HO111.out) (Kd.R_typed HO_8.out) (by decide)) BK108.out (by decide)) (fun k_ hk => ⟨hk.2, hk.1.2⟩)))
                      (case aB => exact (by repeat (first | (with_reducible first | exact HB.out | apply below_alloc | apply pw_below_drewN | apply below_drew1 | refine below_set ?_ GE108.out) | exact HB.out)))
                      (case aF => exact (fun k_ hk => Kd.freshB (g := gb108) (o := .cells #[.slice A107_0 ((rd_T41 l0 x32_2).f0).length c107_0, .float .f64 ((rd_T41 l0 x32_2).f1)] 41 (0, 0)) (by (with_reducible repeat (first | refine blk_drewN ?_ _ | refine blk_drew ?_ | refine blk_alloc ?_ _)); exact BK108.out) k_ hk))
                      (case aO => exact (by (with_reducible repeat (first | apply Kd.R_alloc | apply Kd.R_drewN | apply Kd.R_drew)); exact Kd.R_mono HO_8.out (fun _ hk => hk.1)))
                      (case aS => exact (below_size (by repeat (first | (with_reducible first | exact HB.out | apply below_alloc | apply pw_below_drewN | apply below_drew1 | refine below_set ?_ GE108.out) | exact HB.out))))
                      (case aL => have := LMc18.out; omega)
                      intro v113 w25 ho hb hg hat
                      rw [← Ny112.out] at ho
                      have n0_ := Aside0.mk (blk_grown (g := gb108) (o := .cells #[.slice A107_0 ((rd_T41 l0 x32_2).f0).length c107_0, .float .f64 ((rd_T41 l0 x32_2).f1)] 41 (0, 0)) (by (with_reducible repeat (first | refine blk_drewN ?_ _ | refine blk_drew ?_ | refine blk_alloc ?_ _)); exact BK108.out) hg (Kd.R_away HO_8.out (fun _ hk => hk.1)))
                      have n1_ := Aside0.mk (hb)
                      have n2_ := Aside0.mk (ho)
                      clear BK108
                      clear HB
                      clear HO_8
                      clear HO111
                      have BK108 := n0_
                      have HB := n1_
                      have HO114 := n2_
                      clear n0_ n1_ n2_
                      clear ho hb hg hat
                      refine hK.out _ _ ⟨(blk_cell BK108.out 0).trans rfl, (blk_cell BK108.out 1).trans rfl⟩ (fun hHeld => ?_)
                      clear hK K
                      refine norm_ (a' := ?_) ?_ ?_
                      rotate_left
                      · show Act.put _ (some 44) _ = _
                        simp only [Act.put, List.setIfInBounds_toArray, List.set_cons_zero, List.set_cons_succ, i64_w, i32_w]
                        rfl
                      refine pure_ (i := 9) (N := some 8) (v := ?_) (a' := ?_) #[true, true, true, true, true, true, true, true, true, true] rfl rfl (any_of HT_.out (by kernel_rfl)) (fun _ _ _ h => h) (Or.inl ⟨by rfl, ?_⟩) ?_ ?_
                      rotate_left
                      · intro w'
                        go_simp
                        with_reducible rfl
                      rotate_left
                      · simp only [Act.put, List.setIfInBounds_toArray, List.set_cons_zero, List.set_cons_succ, i64_w, i32_w]
                        rfl
                      refine done_ (done_of HT_.out (by kernel_rfl)) ?_
                      try go_wp2
                      go_roundg k2
                      case measure => have := HK1.out; have := HK2.out; omega
                      case rel => exact ⟨(y112), (wrap64 (x32_2 + 1)), (by first | rfl | (simp; done) | (simp [*]; done)), H', ⟨by have := HK1.out; have := HK2.out; omega⟩, ⟨by (with_reducible repeat (first | apply Kd.R_alloc | apply Kd.R_drewN | apply Kd.R_drew)); exact Kd.R_mono HO114.out (fun _ hk => trivial)⟩, ⟨by repeat (first | (with_reducible first | exact HB.out | apply below_alloc | apply pw_below_drewN | apply below_drew1 | refine below_set ?_ GE108.out) | exact HB.out)⟩⟩
                    · rw [if_neg c18] at H
                      exact absurd H (by simp)
                  · rw [if_neg c16] at H
                    exact absurd H (by simp)
                · rw [if_neg c15] at H
                  exact absurd H (by simp)
              · rw [if_neg c14] at H
                have c14b0 : decide (x32_2 < (l0.length : Int)) = false := decide_eq_false c14
                clear c14
                have H' := Aside0.mk H
                clear H
                go_wp2_with fail
                refine (sortPt_calls w.heap.size _ _ _ _ (by (with_reducible repeat (first | apply Kd.R_alloc | apply Kd.R_drewN | apply Kd.R_drew)); exact HO_8.out) (sortAll_len H'.out)).mono ?_
                rintro e w9 ⟨rfl, x8_2, hperm, hsort, ho, hkept⟩
                have H2 := Aside0.mk (sortAll_some H'.out x8_2 hperm hsort)
                have n0_ := Aside0.mk ho
                have n1_ := Aside0.mk (Below.trans (by repeat (first | (with_reducible first | exact HB.out | apply below_alloc | apply pw_below_drewN | apply below_drew1) | exact HB.out)) (hkept.below (B := w.heap.size) (fun k hk => Kd.R_base HO_8.out k hk) (below_size (by repeat (first | (with_reducible first | exact HB.out | apply below_alloc | apply pw_below_drewN | apply below_drew1) | exact HB.out)))))
                clear H' HO_8 HB hperm hsort ho hkept
                have H' := H2
                have HO_8 := n0_
                have HB := n1_
                clear H2 n0_ n1_
                go_wp2
                go_loopg [11] k2 (fun kq v11 w' => ∃ (x11_3 : Int), v11 = .int .i64 x11_3 ∧ Aside0 (vec_Vector.l2 kq x8_2 x11_3 = some (r1, r2)) ∧ Aside0 (kq ≤ k2) ∧ Aside0 (Kd.R k41 41 w' w.heap.size (fun _ => True) u8 x8_2) ∧ Aside0 (Below w.heap.size w w'))
                case atStart => exact ⟨(1), (by first | rfl | (simp; done) | (simp [*]; done)), H', ⟨Nat.le_refl _⟩, ⟨by (with_reducible repeat (first | apply Kd.R_alloc | apply Kd.R_drewN | apply Kd.R_drew)); exact HO_8.out⟩, ⟨by repeat (first | (with_reducible first | exact HB.out | apply below_alloc | apply pw_below_drewN | apply below_drew1) | exact HB.out)⟩⟩
                case round =>
                  clear H'
                  try clear c1
                  try clear p1
                  try clear q1
                  try clear hx1
                  try clear c2
                  try clear c2b0
                  try clear c2b1
                  try clear p2
                  try clear c3
                  try clear c3b0
                  try clear c4
                  try clear c4b0
                  try clear c5
                  try clear c5b0
                  try clear p6
                  try clear c7
                  try clear c7b0
                  try clear c7b1
                  try clear c10
                  try clear p10
                  try clear q10
                  try clear hx10
                  try clear c14
                  try clear c14b0
                  try clear c15
                  try clear c15b0
                  try clear c16
                  try clear c16b0
                  try clear c18
                  try clear hcz12_0
                  try clear hcz12_1
                  try clear hcz20_0
                  try clear hcz20_1
                  try clear hcz9_0
                  try clear hcz9_1
                  try clear hfz12_0
                  try clear hfz12_1
                  try clear hfz20_0
                  try clear hfz20_1
                  try clear hfz9_0
                  try clear hfz9_1
                  try clear hx103_0
                  try clear hx103_1
                  try clear hx107_0
                  try clear hx107_1
                  try clear p1
                  try clear p10
                  try clear p103
                  try clear p107
                  try clear p2
                  try clear p6
                  try clear q1
                  try clear q10
                  try clear q103
                  try clear q107
                  obtain ⟨x11_3, rfl, HA, HK3, HO_8, HB⟩ := hrel
                  cases gk with
                  | zero => exact absurd HA.out (by simp [vec_Vector.l2])
                  | succ k3 =>
                    have H := HA.out
                    clear HA
                    simp only [vec_Vector.l2] at H
                    by_cases c26 : x11_3 < (x8_2.length : Int)
                    · rw [if_pos c26] at H
                      have c26b0 : decide (x11_3 < (x8_2.length : Int)) = true := decide_eq_true c26
                      clear c26
                      obtain ⟨ji27, hji27⟩ : ∃ j_ : Int, (wrap64 (x11_3 - 1)) = j_ := ⟨_, rfl⟩
                      replace H : (if 0 ≤ (ji27) then (if (ji27) < (x8_2.length : Int) then (if 0 ≤ x11_3 then ((labels_Compare.f ((rd_T41 x8_2 (ji27)).f0) ((rd_T41 x8_2 x11_3).f0)).bind fun t117 => (if t117 = 0 then (some (([] : List (S41)), 150)) else (vec_Vector.l2 k3 x8_2 (wrap64 (x11_3 + 1))))) else (none)) else (none)) else (none)) = some (r1, r2) := by first | (rw [hji27] at H; exact H) | (simp only [hji27] at H ⊢; exact H)
                      have hji27w : (IntKind.i64.wrap (x11_3 - 1)) = ji27 := (i64_w _).trans hji27
                      by_cases c28 : 0 ≤ (ji27)
                      · rw [if_pos c28] at H
                        have c28b0 : decide (0 ≤ (ji27)) = true := decide_eq_true c28
                        clear c28
                        by_cases c29 : (ji27) < (x8_2.length : Int)
                        · rw [if_pos c29] at H
                          have c29b0 : decide ((ji27) < (x8_2.length : Int)) = true := decide_eq_true c29
                          clear c29
                          by_cases c30 : 0 ≤ x11_3
                          · rw [if_pos c30] at H
                            have c30b0 : decide (0 ≤ x11_3) = true := decide_eq_true c30
                            clear c30
                            replace H := Option.bind_eq_some_iff.mp H
                            obtain ⟨t117, A310, H⟩ := H
                            replace H : (if t117 = 0 then (some (([] : List (S41)), 150)) else (vec_Vector.l2 k3 x8_2 (wrap64 (x11_3 + 1)))) = some (r1, r2) := H
                            have A31 := Aside0.mk A310
                            clear A310
                            by_cases c32 : t117 = 0
                            · rw [if_pos c32] at H
                              have c32b0 : (t117 == 0) = true := beq_iff_eq.mpr c32
                              have c32b1 : (t117 != 0) = false := bne_eq_false_iff_eq.mpr c32
                              clear c32
                              simp only [Option.some.injEq, Prod.mk.injEq] at H
                              obtain ⟨rfl, rfl⟩ := H
                              obtain ⟨Ao33, co33, eo33⟩ := Kd.R_slice HO_8.out
                              subst eo33
                              try go_wp2
                              have n0_ := Aside0.mk (Kd.R_drew HO_8.out)
                              have n1_ := Aside0.mk (below_drew1 HB.out)
                              clear HO_8
                              clear HB
                              have HO_8 := n0_
                              have HB := n1_
                              clear n0_ n1_
                              have p115 : 0 ≤ ((ji27) : Int) := of_decide_eq_true (by first | (with_reducible assumption) | assumption)
                              have q115 : (ji27) < (x8_2.length : Int) := of_decide_eq_true (by first | (with_reducible assumption) | assumption)
                              obtain ⟨ad115, A115_0, c115_0, e115, hx115_0, hx115_1, hl115_0, hi115_0⟩ := at_T41 (Kd.R_reads' HO_8.out).2.2 (ji27) p115 q115
                              cases e115
                              obtain ⟨ce115, hce115, hMe115, hcc115⟩ := Kd.R_get HO_8.out z41 (ji27) p115 (by first | exact q115 | exact of_decide_eq_true (by first | (with_reducible assumption) | assumption) | (have e_ := (Kd.R_reads' HO_8.out).1; omega))
                              obtain ⟨ve115_0, rfl, ge115_0⟩ := k41_openM hMe115
                              have hv115_0 := hcc115 0 _ rfl
                              rw [Nat.add_zero] at hv115_0
                              replace hv115_0 := Option.some.inj (hv115_0.symm.trans hx115_0)
                              rw [hv115_0] at ge115_0
                              have HL115_0 := Aside0.mk (show Kd.R k89 89 _ _ _ _ ((rd_T41 x8_2 (ji27)).f0) from ge115_0)
                              clear hv115_0 ge115_0
                              clear hcc115 hce115
                              have HR115_0 := Aside0.mk hi115_0
                              have HC115_0 := Aside0.mk hl115_0
                              clear hi115_0 hl115_0
                              replace p115 := eq_true p115
                              replace q115 := eq_true q115
                              have p116 : 0 ≤ (x11_3 : Int) := of_decide_eq_true (by first | (with_reducible assumption) | assumption)
                              have q116 : x11_3 < (x8_2.length : Int) := of_decide_eq_true (by first | (with_reducible assumption) | assumption)
                              obtain ⟨ad116, A116_0, c116_0, e116, hx116_0, hx116_1, hl116_0, hi116_0⟩ := at_T41 (Kd.R_reads' HO_8.out).2.2 x11_3 p116 q116
                              obtain rfl : ad115 = ad116 := (by injection e116)
                              obtain ⟨ce116, hce116, hMe116, hcc116⟩ := Kd.R_get HO_8.out z41 x11_3 p116 (by first | exact q116 | exact of_decide_eq_true (by first | (with_reducible assumption) | assumption) | (have e_ := (Kd.R_reads' HO_8.out).1; omega))
                              obtain ⟨ve116_0, rfl, ge116_0⟩ := k41_openM hMe116
                              have hv116_0 := hcc116 0 _ rfl
                              rw [Nat.add_zero] at hv116_0
                              replace hv116_0 := Option.some.inj (hv116_0.symm.trans hx116_0)
                              rw [hv116_0] at ge116_0
                              have HL116_0 := Aside0.mk (show Kd.R k89 89 _ _ _ _ ((rd_T41 x8_2 x11_3).f0) from ge116_0)
                              clear hv116_0 ge116_0
                              clear hcc116 hce116
                              have HR116_0 := Aside0.mk hi116_0
                              have HC116_0 := Aside0.mk hl116_0
                              clear hi116_0 hl116_0
                              replace p116 := eq_true p116
                              replace q116 := eq_true q116
                              refine start_ (n := 13) (S := fun w' => w'.cell? (ad115.add (((ji27)).toNat * 2)) = some (.slice A115_0 ((rd_T41 x8_2 (ji27)).f0).length c115_0) ∧ w'.cell? ⟨(ad115.add (((ji27)).toNat * 2)).block, (ad115.add (((ji27)).toNat * 2)).off + 1, none⟩ = some (.float .f64 ((rd_T41 x8_2 (ji27)).f1)) ∧ w'.cell? (ad115.add ((x11_3).toNat * 2)) = some (.slice A116_0 ((rd_T41 x8_2 x11_3).f0).length c116_0) ∧ w'.cell? ⟨(ad115.add ((x11_3).toNat * 2)).block, (ad115.add ((x11_3).toNat * 2)).off + 1, none⟩ = some (.float .f64 ((rd_T41 x8_2 x11_3).f1))) (ds := []) #[false, false, false, false, false, false, false, false, false, false, false, false, false] (by kernel_rfl) rfl rfl ⟨hx115_0, hx115_1, hx116_0, hx116_1⟩ (fun hHeld => ?_); refine with_tabW vec_Vector.tab20 vec_Vector.bits20 (fun HT_ HW_ => ?_)
                              generalize wr.drew = w34 at HO_8 HB HL115_0 HL116_0 HR115_0 HR116_0 hx115_0 hx115_1 hx116_0 hx116_1 hHeld ⊢
                              refine pure_ (i := 0) (N := some 54) (v := ?_) (a' := ?_) #[true, false, false, false, false, false, false, false, false, false, false, false, false] rfl rfl (any_of HT_.out (by kernel_rfl)) (fun _ _ _ h => h) (Or.inl ⟨by rfl, ?_⟩) ?_ ?_
                              rotate_left
                              · intro w'
                                go_simp
                                with_reducible rfl
                              rotate_left
                              · simp only [Act.put, List.setIfInBounds_toArray, List.set_cons_zero, List.set_cons_succ, i64_w, i32_w]
                                rfl
                              refine pure_ (i := 1) (N := some 55) (v := ?_) (a' := ?_) #[true, true, false, false, false, false, false, false, false, false, false, false, false] rfl rfl (any_of HT_.out (by kernel_rfl)) (fun _ _ _ h => h) (Or.inl ⟨by rfl, ?_⟩) ?_ ?_
                              rotate_left
                              · intro w'
                                go_simp
                                with_reducible rfl
                              rotate_left
                              · simp only [Act.put, List.setIfInBounds_toArray, List.set_cons_zero, List.set_cons_succ, i64_w, i32_w]
                                rfl
                              refine pure_ (i := 2) (N := some 56) (v := ?_) (a' := ?_) #[true, true, true, false, false, false, false, false, false, false, false, false, false] rfl rfl (any_of HT_.out (by kernel_rfl)) (fun _ _ _ h => h) (Or.inl ⟨by rfl, ?_⟩) ?_ ?_
                              rotate_left
                              · intro w'
                                go_simp
                                with_reducible rfl
                              rotate_left
                              · simp only [Act.put, List.setIfInBounds_toArray, List.set_cons_zero, List.set_cons_succ, i64_w, i32_w]
                                rfl
                              refine pure_ (i := 3) (N := some 57) (v := ?_) (a' := ?_) #[true, true, true, true, false, false, false, false, false, false, false, false, false] rfl rfl (any_of HT_.out (by kernel_rfl)) (fun _ _ _ h => h) (Or.inl ⟨by rfl, ?_⟩) ?_ ?_
                              rotate_left
                              · intro w'
                                go_simp
                                with_reducible rfl
                              rotate_left
                              · simp only [Act.put, List.setIfInBounds_toArray, List.set_cons_zero, List.set_cons_succ, i64_w, i32_w]
                                rfl
                              refine pure_ (i := 4) (N := some 58) (v := ?_) (a' := ?_) #[true, true, true, true, true, false, false, false, false, false, false, false, false] rfl rfl (any_of HT_.out (by kernel_rfl)) (fun _ _ _ h => h) (Or.inl ⟨by rfl, ?_⟩) ?_ ?_
                              rotate_left
                              · intro w'
                                go_simp
                                with_reducible rfl
                              rotate_left
                              · simp only [Act.put, List.setIfInBounds_toArray, List.set_cons_zero, List.set_cons_succ, i64_w, i32_w]
                                rfl
                              refine pure_ (i := 6) (N := some 60) (v := ?_) (a' := ?_) #[true, true, true, true, true, false, true, false, false, false, false, false, false] rfl rfl (any_of HT_.out (by kernel_rfl)) (fun _ _ _ h => h) (Or.inl ⟨by rfl, ?_⟩) ?_ ?_
                              rotate_left
                              · intro w'
                                go_simp
                                with_reducible rfl
                              rotate_left
                              · simp only [Act.put, List.setIfInBounds_toArray, List.set_cons_zero, List.set_cons_succ, i64_w, i32_w]
                                rfl
                              refine pure_ (i := 7) (N := some 61) (v := ?_) (a' := ?_) #[true, true, true, true, true, false, true, true, false, false, false, false, false] rfl rfl (any_of HT_.out (by kernel_rfl)) (fun _ _ _ h => h) (Or.inl ⟨by rfl, ?_⟩) ?_ ?_
                              rotate_left
                              · intro w'
                                go_simp
                                with_reducible rfl
                              rotate_left
                              · simp only [Act.put, List.setIfInBounds_toArray, List.set_cons_zero, List.set_cons_succ, i64_w, i32_w]
                                rfl
                              refine pure_ (i := 8) (N := some 62) (v := ?_) (a' := ?_) #[true, true, true, true, true, false, true, true, true, false, false, false, false] rfl rfl (any_of HT_.out (by kernel_rfl)) (fun _ _ _ h => h) (Or.inl ⟨by rfl, ?_⟩) ?_ ?_
                              rotate_left
                              · intro w'
                                go_simp
                                with_reducible rfl
                              rotate_left
                              · simp only [Act.put, List.setIfInBounds_toArray, List.set_cons_zero, List.set_cons_succ, i64_w, i32_w]
                                rfl
                              refine pure_ (i := 9) (N := some 63) (v := ?_) (a' := ?_) #[true, true, true, true, true, false, true, true, true, true, false, false, false] rfl rfl (any_of HT_.out (by kernel_rfl)) (fun _ _ _ h => h) (Or.inl ⟨by rfl, ?_⟩) ?_ ?_
                              rotate_left
                              · intro w'
                                go_simp
                                with_reducible rfl
                              rotate_left
                              · simp only [Act.put, List.setIfInBounds_toArray, List.set_cons_zero, List.set_cons_succ, i64_w, i32_w]
                                rfl
                              refine take_ (i := 5) (N := some 59) (v := ?_) (a' := ?_) #[true, true, true, true, true, true, true, true, true, true, false, false, false] rfl rfl (take_ofW HT_.out HW_.out (by kernel_rfl)) (fun _ _ _ h => h) (Or.inl ⟨by rfl, ?_⟩) hHeld ?_ ?_
                              rotate_left
                              · rintro w' ⟨s0, s1, s2, s3⟩
                                go_simp
                                with_reducible rfl
                              rotate_left
                              · simp only [Act.put, List.setIfInBounds_toArray, List.set_cons_zero, List.set_cons_succ, i64_w, i32_w]
                                rfl
                              refine take_ (i := 10) (N := some 64) (v := ?_) (a' := ?_) #[true, true, true, true, true, true, true, true, true, true, true, false, false] rfl rfl (take_ofW HT_.out HW_.out (by kernel_rfl)) (fun _ _ _ h => h) (Or.inl ⟨by rfl, ?_⟩) hHeld ?_ ?_
                              rotate_left
                              · rintro w' ⟨s0, s1, s2, s3⟩
                                go_simp
                                with_reducible rfl
                              rotate_left
                              · simp only [Act.put, List.setIfInBounds_toArray, List.set_cons_zero, List.set_cons_succ, i64_w, i32_w]
                                rfl
                              refine one_ (i := 11) (N := some 65) #[true, true, true, true, true, true, true, true, true, true, true, true, false] rfl rfl (one_of HT_.out (by kernel_rfl)) (by decide) (fun K hK => ?_)
                              refine goes_ Tryz.func61 (by kernel_rfl) rfl #[.slice A115_0 ((rd_T41 x8_2 (ji27)).f0).length c115_0, .slice A116_0 ((rd_T41 x8_2 x11_3).f0).length c116_0] (by rfl) rfl rfl (by (try simp only [List.map_toArray, List.map_cons, List.map_nil]); first | done | (simp only [hji27]; rfl) | rfl | (simp only [List.length_drop, List.length_take]; rfl)) ?_
                              with_reducible refine (labels_Compare.calls _ _ ((rd_T41 x8_2 (ji27)).f0) _ _ ((rd_T41 x8_2 x11_3).f0) t117 _ ?side1 ?side2 ?side3 ?side4 A31.out).mono ?_
                              (case side1 => repeat (first | exact (by repeat (first | (with_reducible exact HR115_0.out) | (with_reducible refine Kd.C_alloc ?_ _) | (with_reducible refine Kd.C_drewN ?_ _) | (with_reducible refine Kd.C_drew ?_) | exact HR115_0.out)) | (with_reducible refine Kd.C_alloc ?_ _) | (with_reducible refine Kd.C_drewN ?_ _) | (with_reducible refine Kd.C_drew ?_)))
                              (case side2 => exact HC115_0.out)
                              (case side3 => repeat (first | exact (by repeat (first | (with_reducible exact HR116_0.out) | (with_reducible refine Kd.C_alloc ?_ _) | (with_reducible refine Kd.C_drewN ?_ _) | (with_reducible refine Kd.C_drew ?_) | exact HR116_0.out)) | (with_reducible refine Kd.C_alloc ?_ _) | (with_reducible refine Kd.C_drewN ?_ _) | (with_reducible refine Kd.C_drew ?_)))
                              (case side4 => exact HC116_0.out)
                              rintro e w35 ⟨rfl, hb⟩
                              have HS0_ := (hb.cell (World.block_lt_of_cell? _ _ (hHeld.1))).trans (hHeld.1)
                              have HS1_ := (hb.cell (World.block_lt_of_cell? _ _ (hHeld.2.1))).trans (hHeld.2.1)
                              have HS2_ := (hb.cell (World.block_lt_of_cell? _ _ (hHeld.2.2.1))).trans (hHeld.2.2.1)
                              have HS3_ := (hb.cell (World.block_lt_of_cell? _ _ (hHeld.2.2.2))).trans (hHeld.2.2.2)
                              refine ⟨_, rfl, ?_⟩
                              have n0_ := Aside0.mk (Kd.R_below (by (with_reducible repeat (first | apply Kd.R_alloc | apply Kd.R_drewN | apply Kd.R_drew)); exact HO_8.out) hb)
                              have n1_ := Aside0.mk (Kd.R_below (by (with_reducible repeat (first | apply Kd.R_alloc | apply Kd.R_drewN | apply Kd.R_drew)); exact HL115_0.out) hb)
                              have n2_ := Aside0.mk (Kd.R_below (by (with_reducible repeat (first | apply Kd.R_alloc | apply Kd.R_drewN | apply Kd.R_drew)); exact HL116_0.out) hb)
                              have n3_ := Aside0.mk (Kd.C_below (by repeat (first | (with_reducible exact HR115_0.out) | (with_reducible refine Kd.C_alloc ?_ _) | (with_reducible refine Kd.C_drewN ?_ _) | (with_reducible refine Kd.C_drew ?_) | exact HR115_0.out)) hb)
                              have n4_ := Aside0.mk (Kd.C_below (by repeat (first | (with_reducible exact HR116_0.out) | (with_reducible refine Kd.C_alloc ?_ _) | (with_reducible refine Kd.C_drewN ?_ _) | (with_reducible refine Kd.C_drew ?_) | exact HR116_0.out)) hb)
                              have n5_ := Aside0.mk (below_step (by repeat (first | (with_reducible first | exact HB.out | apply below_alloc | apply pw_below_drewN | apply below_drew1) | exact HB.out)) hb)
                              clear HO_8
                              clear HL115_0
                              clear HL116_0
                              clear HR115_0
                              clear HR116_0
                              clear HB
                              have HO_8 := n0_
                              have HL115_0 := n1_
                              have HL116_0 := n2_
                              have HR115_0 := n3_
                              have HR116_0 := n4_
                              have HB := n5_
                              clear n0_ n1_ n2_ n3_ n4_ n5_
                              (try clear hb)
                              (try clear hb2)
                              (try clear hk)
                              (try clear hi)
                              refine hK.out _ _ ⟨HS0_, HS1_, HS2_, HS3_⟩ (fun hHeld => ?_)
                              clear hK K
                              refine norm_ (a' := ?_) ?_ ?_
                              rotate_left
                              · show Act.put _ (some 65) _ = _
                                simp only [Act.put, List.setIfInBounds_toArray, List.set_cons_zero, List.set_cons_succ, i64_w, i32_w]
                                rfl
                              refine pure_ (i := 12) (N := some 66) (v := ?_) (a' := ?_) #[true, true, true, true, true, true, true, true, true, true, true, true, true] rfl rfl (any_of HT_.out (by kernel_rfl)) (fun _ _ _ h => h) (Or.inl ⟨by rfl, ?_⟩) ?_ ?_
                              rotate_left
                              · intro w'
                                go_simp
                                with_reducible rfl
                              rotate_left
                              · simp only [Act.put, List.setIfInBounds_toArray, List.set_cons_zero, List.set_cons_succ, i64_w, i32_w]
                                rfl
                              refine done_ (done_of HT_.out (by kernel_rfl)) ?_
                              try go_wp2
                              go_ret2
                              exact ⟨_, by first | rfl | (simp [errW_none, errW_some] <;> rfl) | (simp only [← hji27]; first | rfl | (simp [errW_none, errW_some] <;> rfl)) | (simp [*, errW_none, errW_some] <;> rfl), by first | exact Kd.R_nil _ _ _ _ _ | exact Kd.N_nil _ _ _ _ _ | exact Kd.V_nil _ _ _ _ _ | exact Kd.Q_nil _ _ _ _ _ | exact Kd.S_nil _ _ _ _ _, by repeat (first | (with_reducible first | exact HB.out | apply below_alloc | apply pw_below_drewN | apply below_drew1) | exact HB.out)⟩
                            · rw [if_neg c32] at H
                              have c32b0 : (t117 == 0) = false := beq_eq_false_iff_ne.mpr c32
                              have c32b1 : (t117 != 0) = true := bne_iff_ne.mpr c32
                              have H' := Aside0.mk H
                              clear H
                              obtain ⟨Ao36, co36, eo36⟩ := Kd.R_slice HO_8.out
                              subst eo36
                              try go_wp2
                              have n0_ := Aside0.mk (Kd.R_drew HO_8.out)
                              have n1_ := Aside0.mk (below_drew1 HB.out)
                              clear HO_8
                              clear HB
                              have HO_8 := n0_
                              have HB := n1_
                              clear n0_ n1_
                              have p115 : 0 ≤ ((ji27) : Int) := of_decide_eq_true (by first | (with_reducible assumption) | assumption)
                              have q115 : (ji27) < (x8_2.length : Int) := of_decide_eq_true (by first | (with_reducible assumption) | assumption)
                              obtain ⟨ad115, A115_0, c115_0, e115, hx115_0, hx115_1, hl115_0, hi115_0⟩ := at_T41 (Kd.R_reads' HO_8.out).2.2 (ji27) p115 q115
                              cases e115
                              obtain ⟨ce115, hce115, hMe115, hcc115⟩ := Kd.R_get HO_8.out z41 (ji27) p115 (by first | exact q115 | exact of_decide_eq_true (by first | (with_reducible assumption) | assumption) | (have e_ := (Kd.R_reads' HO_8.out).1; omega))
                              obtain ⟨ve115_0, rfl, ge115_0⟩ := k41_openM hMe115
                              have hv115_0 := hcc115 0 _ rfl
                              rw [Nat.add_zero] at hv115_0
                              replace hv115_0 := Option.some.inj (hv115_0.symm.trans hx115_0)
                              rw [hv115_0] at ge115_0
                              have HL115_0 := Aside0.mk (show Kd.R k89 89 _ _ _ _ ((rd_T41 x8_2 (ji27)).f0) from ge115_0)
                              clear hv115_0 ge115_0
                              clear hcc115 hce115
                              have HR115_0 := Aside0.mk hi115_0
                              have HC115_0 := Aside0.mk hl115_0
                              clear hi115_0 hl115_0
                              replace p115 := eq_true p115
                              replace q115 := eq_true q115
                              have p116 : 0 ≤ (x11_3 : Int) := of_decide_eq_true (by first | (with_reducible assumption) | assumption)
                              have q116 : x11_3 < (x8_2.length : Int) := of_decide_eq_true (by first | (with_reducible assumption) | assumption)
                              obtain ⟨ad116, A116_0, c116_0, e116, hx116_0, hx116_1, hl116_0, hi116_0⟩ := at_T41 (Kd.R_reads' HO_8.out).2.2 x11_3 p116 q116
                              obtain rfl : ad115 = ad116 := (by injection e116)
                              obtain ⟨ce116, hce116, hMe116, hcc116⟩ := Kd.R_get HO_8.out z41 x11_3 p116 (by first | exact q116 | exact of_decide_eq_true (by first | (with_reducible assumption) | assumption) | (have e_ := (Kd.R_reads' HO_8.out).1; omega))
                              obtain ⟨ve116_0, rfl, ge116_0⟩ := k41_openM hMe116
                              have hv116_0 := hcc116 0 _ rfl
                              rw [Nat.add_zero] at hv116_0
                              replace hv116_0 := Option.some.inj (hv116_0.symm.trans hx116_0)
                              rw [hv116_0] at ge116_0
                              have HL116_0 := Aside0.mk (show Kd.R k89 89 _ _ _ _ ((rd_T41 x8_2 x11_3).f0) from ge116_0)
                              clear hv116_0 ge116_0
                              clear hcc116 hce116
                              have HR116_0 := Aside0.mk hi116_0
                              have HC116_0 := Aside0.mk hl116_0
                              clear hi116_0 hl116_0
                              replace p116 := eq_true p116
                              replace q116 := eq_true q116
                              refine start_ (n := 13) (S := fun w' => w'.cell? (ad115.add (((ji27)).toNat * 2)) = some (.slice A115_0 ((rd_T41 x8_2 (ji27)).f0).length c115_0) ∧ w'.cell? ⟨(ad115.add (((ji27)).toNat * 2)).block, (ad115.add (((ji27)).toNat * 2)).off + 1, none⟩ = some (.float .f64 ((rd_T41 x8_2 (ji27)).f1)) ∧ w'.cell? (ad115.add ((x11_3).toNat * 2)) = some (.slice A116_0 ((rd_T41 x8_2 x11_3).f0).length c116_0) ∧ w'.cell? ⟨(ad115.add ((x11_3).toNat * 2)).block, (ad115.add ((x11_3).toNat * 2)).off + 1, none⟩ = some (.float .f64 ((rd_T41 x8_2 x11_3).f1))) (ds := []) #[false, false, false, false, false, false, false, false, false, false, false, false, false] (by kernel_rfl) rfl rfl ⟨hx115_0, hx115_1, hx116_0, hx116_1⟩ (fun hHeld => ?_); refine with_tabW vec_Vector.tab20 vec_Vector.bits20 (fun HT_ HW_ => ?_)
                              generalize wr.drew = w37 at HO_8 HB HL115_0 HL116_0 HR115_0 HR116_0 hx115_0 hx115_1 hx116_0 hx116_1 hHeld ⊢
                              refine pure_ (i := 0) (N := some 54) (v := ?_) (a' := ?_) #[true, false, false, false, false, false, false, false, false, false, false, false, false] rfl rfl (any_of HT_.out (by kernel_rfl)) (fun _ _ _ h => h) (Or.inl ⟨by rfl, ?_⟩) ?_ ?_
                              rotate_left
                              · intro w'
                                go_simp
                                with_reducible rfl
                              rotate_left
                              · simp only [Act.put, List.setIfInBounds_toArray, List.set_cons_zero, List.set_cons_succ, i64_w, i32_w]
                                rfl
                              refine pure_ (i := 1) (N := some 55) (v := ?_) (a' := ?_) #[true, true, false, false, false, false, false, false, false, false, false, false, false] rfl rfl (any_of HT_.out (by kernel_rfl)) (fun _ _ _ h => h) (Or.inl ⟨by rfl, ?_⟩) ?_ ?_
                              rotate_left
                              · intro w'
                                go_simp
                                with_reducible rfl
                              rotate_left
                              · simp only [Act.put, List.setIfInBounds_toArray, List.set_cons_zero, List.set_cons_succ, i64_w, i32_w]
                                rfl
                              refine pure_ (i := 2) (N := some 56) (v := ?_) (a' := ?_) #[true, true, true, false, false, false, false, false, false, false, false, false, false] rfl rfl (any_of HT_.out (by kernel_rfl)) (fun _ _ _ h => h) (Or.inl ⟨by rfl, ?_⟩) ?_ ?_
                              rotate_left
                              · intro w'
                                go_simp
                                with_reducible rfl
                              rotate_left
                              · simp only [Act.put, List.setIfInBounds_toArray, List.set_cons_zero, List.set_cons_succ, i64_w, i32_w]
                                rfl
                              refine pure_ (i := 3) (N := some 57) (v := ?_) (a' := ?_) #[true, true, true, true, false, false, false, false, false, false, false, false, false] rfl rfl (any_of HT_.out (by kernel_rfl)) (fun _ _ _ h => h) (Or.inl ⟨by rfl, ?_⟩) ?_ ?_
                              rotate_left
                              · intro w'
                                go_simp
                                with_reducible rfl
                              rotate_left
                              · simp only [Act.put, List.setIfInBounds_toArray, List.set_cons_zero, List.set_cons_succ, i64_w, i32_w]
                                rfl
                              refine pure_ (i := 4) (N := some 58) (v := ?_) (a' := ?_) #[true, true, true, true, true, false, false, false, false, false, false, false, false] rfl rfl (any_of HT_.out (by kernel_rfl)) (fun _ _ _ h => h) (Or.inl ⟨by rfl, ?_⟩) ?_ ?_
                              rotate_left
                              · intro w'
                                go_simp
                                with_reducible rfl
                              rotate_left
                              · simp only [Act.put, List.setIfInBounds_toArray, List.set_cons_zero, List.set_cons_succ, i64_w, i32_w]
                                rfl
                              refine pure_ (i := 6) (N := some 60) (v := ?_) (a' := ?_) #[true, true, true, true, true, false, true, false, false, false, false, false, false] rfl rfl (any_of HT_.out (by kernel_rfl)) (fun _ _ _ h => h) (Or.inl ⟨by rfl, ?_⟩) ?_ ?_
                              rotate_left
                              · intro w'
                                go_simp
                                with_reducible rfl
                              rotate_left
                              · simp only [Act.put, List.setIfInBounds_toArray, List.set_cons_zero, List.set_cons_succ, i64_w, i32_w]
                                rfl
                              refine pure_ (i := 7) (N := some 61) (v := ?_) (a' := ?_) #[true, true, true, true, true, false, true, true, false, false, false, false, false] rfl rfl (any_of HT_.out (by kernel_rfl)) (fun _ _ _ h => h) (Or.inl ⟨by rfl, ?_⟩) ?_ ?_
                              rotate_left
                              · intro w'
                                go_simp
                                with_reducible rfl
                              rotate_left
                              · simp only [Act.put, List.setIfInBounds_toArray, List.set_cons_zero, List.set_cons_succ, i64_w, i32_w]
                                rfl
                              refine pure_ (i := 8) (N := some 62) (v := ?_) (a' := ?_) #[true, true, true, true, true, false, true, true, true, false, false, false, false] rfl rfl (any_of HT_.out (by kernel_rfl)) (fun _ _ _ h => h) (Or.inl ⟨by rfl, ?_⟩) ?_ ?_
                              rotate_left
                              · intro w'
                                go_simp
                                with_reducible rfl
                              rotate_left
                              · simp only [Act.put, List.setIfInBounds_toArray, List.set_cons_zero, List.set_cons_succ, i64_w, i32_w]
                                rfl
                              refine pure_ (i := 9) (N := some 63) (v := ?_) (a' := ?_) #[true, true, true, true, true, false, true, true, true, true, false, false, false] rfl rfl (any_of HT_.out (by kernel_rfl)) (fun _ _ _ h => h) (Or.inl ⟨by rfl, ?_⟩) ?_ ?_
                              rotate_left
                              · intro w'
                                go_simp
                                with_reducible rfl
                              rotate_left
                              · simp only [Act.put, List.setIfInBounds_toArray, List.set_cons_zero, List.set_cons_succ, i64_w, i32_w]
                                rfl
                              refine take_ (i := 5) (N := some 59) (v := ?_) (a' := ?_) #[true, true, true, true, true, true, true, true, true, true, false, false, false] rfl rfl (take_ofW HT_.out HW_.out (by kernel_rfl)) (fun _ _ _ h => h) (Or.inl ⟨by rfl, ?_⟩) hHeld ?_ ?_
                              rotate_left
                              · rintro w' ⟨s0, s1, s2, s3⟩
                                go_simp
                                with_reducible rfl
                              rotate_left
                              · simp only [Act.put, List.setIfInBounds_toArray, List.set_cons_zero, List.set_cons_succ, i64_w, i32_w]
                                rfl
                              refine take_ (i := 10) (N := some 64) (v := ?_) (a' := ?_) #[true, true, true, true, true, true, true, true, true, true, true, false, false] rfl rfl (take_ofW HT_.out HW_.out (by kernel_rfl)) (fun _ _ _ h => h) (Or.inl ⟨by rfl, ?_⟩) hHeld ?_ ?_
                              rotate_left
                              · rintro w' ⟨s0, s1, s2, s3⟩
                                go_simp
                                with_reducible rfl
                              rotate_left
                              · simp only [Act.put, List.setIfInBounds_toArray, List.set_cons_zero, List.set_cons_succ, i64_w, i32_w]
                                rfl
                              refine one_ (i := 11) (N := some 65) #[true, true, true, true, true, true, true, true, true, true, true, true, false] rfl rfl (one_of HT_.out (by kernel_rfl)) (by decide) (fun K hK => ?_)
                              refine goes_ Tryz.func61 (by kernel_rfl) rfl #[.slice A115_0 ((rd_T41 x8_2 (ji27)).f0).length c115_0, .slice A116_0 ((rd_T41 x8_2 x11_3).f0).length c116_0] (by rfl) rfl rfl (by (try simp only [List.map_toArray, List.map_cons, List.map_nil]); first | done | (simp only [hji27]; rfl) | rfl | (simp only [List.length_drop, List.length_take]; rfl)) ?_
                              with_reducible refine (labels_Compare.calls _ _ ((rd_T41 x8_2 (ji27)).f0) _ _ ((rd_T41 x8_2 x11_3).f0) t117 _ ?side1 ?side2 ?side3 ?side4 A31.out).mono ?_
                              (case side1 => repeat (first | exact (by repeat (first | (with_reducible exact HR115_0.out) | (with_reducible refine Kd.C_alloc ?_ _) | (with_reducible refine Kd.C_drewN ?_ _) | (with_reducible refine Kd.C_drew ?_) | exact HR115_0.out)) | (with_reducible refine Kd.C_alloc ?_ _) | (with_reducible refine Kd.C_drewN ?_ _) | (with_reducible refine Kd.C_drew ?_)))
                              (case side2 => exact HC115_0.out)
                              (case side3 => repeat (first | exact (by repeat (first | (with_reducible exact HR116_0.out) | (with_reducible refine Kd.C_alloc ?_ _) | (with_reducible refine Kd.C_drewN ?_ _) | (with_reducible refine Kd.C_drew ?_) | exact HR116_0.out)) | (with_reducible refine Kd.C_alloc ?_ _) | (with_reducible refine Kd.C_drewN ?_ _) | (with_reducible refine Kd.C_drew ?_)))
                              (case side4 => exact HC116_0.out)
                              rintro e w38 ⟨rfl, hb⟩
                              have HS0_ := (hb.cell (World.block_lt_of_cell? _ _ (hHeld.1))).trans (hHeld.1)
                              have HS1_ := (hb.cell (World.block_lt_of_cell? _ _ (hHeld.2.1))).trans (hHeld.2.1)
                              have HS2_ := (hb.cell (World.block_lt_of_cell? _ _ (hHeld.2.2.1))).trans (hHeld.2.2.1)
                              have HS3_ := (hb.cell (World.block_lt_of_cell? _ _ (hHeld.2.2.2))).trans (hHeld.2.2.2)
                              refine ⟨_, rfl, ?_⟩
                              have n0_ := Aside0.mk (Kd.R_below (by (with_reducible repeat (first | apply Kd.R_alloc | apply Kd.R_drewN | apply Kd.R_drew)); exact HO_8.out) hb)
                              have n1_ := Aside0.mk (Kd.R_below (by (with_reducible repeat (first | apply Kd.R_alloc | apply Kd.R_drewN | apply Kd.R_drew)); exact HL115_0.out) hb)
                              have n2_ := Aside0.mk (Kd.R_below (by (with_reducible repeat (first | apply Kd.R_alloc | apply Kd.R_drewN | apply Kd.R_drew)); exact HL116_0.out) hb)
                              have n3_ := Aside0.mk (Kd.C_below (by repeat (first | (with_reducible exact HR115_0.out) | (with_reducible refine Kd.C_alloc ?_ _) | (with_reducible refine Kd.C_drewN ?_ _) | (with_reducible refine Kd.C_drew ?_) | exact HR115_0.out)) hb)
                              have n4_ := Aside0.mk (Kd.C_below (by repeat (first | (with_reducible exact HR116_0.out) | (with_reducible refine Kd.C_alloc ?_ _) | (with_reducible refine Kd.C_drewN ?_ _) | (with_reducible refine Kd.C_drew ?_) | exact HR116_0.out)) hb)
                              have n5_ := Aside0.mk (below_step (by repeat (first | (with_reducible first | exact HB.out | apply below_alloc | apply pw_below_drewN | apply below_drew1) | exact HB.out)) hb)
                              clear HO_8
                              clear HL115_0
                              clear HL116_0
                              clear HR115_0
                              clear HR116_0
                              clear HB
                              have HO_8 := n0_
                              have HL115_0 := n1_
                              have HL116_0 := n2_
                              have HR115_0 := n3_
                              have HR116_0 := n4_
                              have HB := n5_
                              clear n0_ n1_ n2_ n3_ n4_ n5_
                              (try clear hb)
                              (try clear hb2)
                              (try clear hk)
                              (try clear hi)
                              refine hK.out _ _ ⟨HS0_, HS1_, HS2_, HS3_⟩ (fun hHeld => ?_)
                              clear hK K
                              refine norm_ (a' := ?_) ?_ ?_
                              rotate_left
                              · show Act.put _ (some 65) _ = _
                                simp only [Act.put, List.setIfInBounds_toArray, List.set_cons_zero, List.set_cons_succ, i64_w, i32_w]
                                rfl
                              refine pure_ (i := 12) (N := some 66) (v := ?_) (a' := ?_) #[true, true, true, true, true, true, true, true, true, true, true, true, true] rfl rfl (any_of HT_.out (by kernel_rfl)) (fun _ _ _ h => h) (Or.inl ⟨by rfl, ?_⟩) ?_ ?_
                              rotate_left
                              · intro w'
                                go_simp
                                with_reducible rfl
                              rotate_left
                              · simp only [Act.put, List.setIfInBounds_toArray, List.set_cons_zero, List.set_cons_succ, i64_w, i32_w]
                                rfl
                              refine done_ (done_of HT_.out (by kernel_rfl)) ?_
                              try go_wp2
                              go_roundg k3
                              case measure => have := HK1.out; have := HK2.out; have := HK3.out; omega
                              case rel => exact ⟨(wrap64 (x11_3 + 1)), (by first | rfl | (simp; done) | (simp [*]; done)), H', ⟨by have := HK1.out; have := HK2.out; have := HK3.out; omega⟩, ⟨by (with_reducible repeat (first | apply Kd.R_alloc | apply Kd.R_drewN | apply Kd.R_drew)); exact HO_8.out⟩, ⟨by repeat (first | (with_reducible first | exact HB.out | apply below_alloc | apply pw_below_drewN | apply below_drew1) | exact HB.out)⟩⟩
                          · rw [if_neg c30] at H
                            exact absurd H (by simp)
                        · rw [if_neg c29] at H
                          exact absurd H (by simp)
                      · rw [if_neg c28] at H
                        exact absurd H (by simp)
                    · rw [if_neg c26] at H
                      have c26b0 : decide (x11_3 < (x8_2.length : Int)) = false := decide_eq_false c26
                      clear c26
                      simp only [Option.some.injEq, Prod.mk.injEq] at H
                      obtain ⟨rfl, rfl⟩ := H
                      obtain ⟨Ao39, co39, eo39⟩ := Kd.R_slice HO_8.out
                      subst eo39
                      go_wp2
                      go_ret2
                      exact ⟨_, by first | rfl | (simp [errW_none, errW_some] <;> rfl) | (simp [*, errW_none, errW_some] <;> rfl), by (with_reducible repeat (first | apply Kd.R_alloc | apply Kd.R_drewN | apply Kd.R_drew)); exact HO_8.out, by repeat (first | (with_reducible first | exact HB.out | apply below_alloc | apply pw_below_drewN | apply below_drew1) | exact HB.out)⟩

end Go.Proofs.YtoncpeadbhgmaaaGreatDoor.G

set_option linter.unusedVariables false
set_option linter.unusedSimpArgs false
namespace Go.Proofs.YtoncpeadbhgmaaaGreatDoor.G
open Go.RowKit Go.Sort Go.Shelf Go.Proofs.YtoncpeadbhgmaaaGreatDoorW.PrintWords Go.Proofs.YtoncpeadbhgmaaaGreatDoorW.PrintLast Go.Proofs.YtoncpeadbhgmaaaGreatDoorW.PrintMore

theorem grown_none {w w' : World} (h : Below w.heap.size w w') : w.grownBy w' none := ⟨h.os, h.tape, h.output, h.size, fun k hk _ => h.block k hk⟩
theorem grown_below {w w' : World} {g : Option Nat} {B : Nat} (h : w.grownBy w' g) (hB : ∀ k, g = some k → B ≤ k) (hs : B ≤ w.heap.size) : Below B w w' :=
  ⟨h.os, h.tape, h.output, h.size, fun k hk => h.block k (by omega) (fun e => by have := hB k e.symm; omega)⟩
/-- A row of one's own, over a write into a block of another element type. -/
theorem R_kept {α : Type} {d : Kd α} {e : Nat} {w w1 : World} {base : Nat} {ok : Nat → Prop} {v : Value} {xs : List α} (h : d.R e w base ok v xs) {g : Option Nat} (hg : w.grownBy w1 g)
    (hne : ∀ k q c, g = some k → q ∈ e :: d.E → w.heap[k]? ≠ some (.cells c q (0, 0))) : d.R e w1 base ok v xs :=
  Kd.R_mono (Kd.R_move (Kd.R_bound h) (fun k hk => hg.block k hk.2.2.1 (fun he => by
    obtain ⟨_, _, _, q, hq, c, hc⟩ := hk
    exact hne k q c he.symm hq hc))) (fun _ hk => hk.1)

abbrev SL := Option Addr × Nat × Nat
def sv (u : SL) : Value := .slice u.1 u.2.1 u.2.2
def slK : Kd SL := Kd.scalar sv (fun _ => rfl)
def okI (B : Nat) (v : Value) (k : Nat) : Prop := k < B ∨ some k = v.ownBlock
structure Rows (B lim : Nat) (w : World) (v : Value) (outs : List (List S41)) : Prop where mk_ ::
  ex : ∃ vs : List SL, vs.length = outs.length ∧ slK.R 22 w B (fun _ => True) v vs ∧ (∀ (i : Nat) (u : SL) (o : List S41), vs[i]? = some u → outs[i]? = some o → Kd.N k41 41 w B (okI B (sv u)) (sv u) o) ∧
    (∀ (i j : Nat) (ui uj : SL), i ≠ j → vs[i]? = some ui → vs[j]? = some uj → ∀ b, (sv ui).ownBlock = some b → (sv uj).ownBlock ≠ some b) ∧ ∀ (i : Nat) (u : SL), vs[i]? = some u → ∀ b, (sv u).ownBlock = some b → b < lim

theorem inner_kept {B : Nat} {w w1 : World} {u : SL} {o : List S41} (h : Kd.N k41 41 w B (okI B (sv u)) (sv u) o) {g : Option Nat} (hg : w.grownBy w1 g) (hB : ∀ k, g = some k → B ≤ k) (hne : ∀ k, g = some k → (sv u).ownBlock ≠ some k) :
    Kd.N k41 41 w1 B (okI B (sv u)) (sv u) o := by
  refine Kd.N_step h (fun k hk hlt => hg.block k hlt (fun e => ?_))
  rcases hk with hk | hk
  · have := hB k e.symm; omega
  · exact hne k e.symm hk.symm
theorem rows_kept {B lim : Nat} {w w1 : World} {v : Value} {outs : List (List S41)} (h : Rows B lim w v outs) {g : Option Nat} (hg : w.grownBy w1 g) (hB : ∀ k, g = some k → B ≤ k)
    (hne : ∀ k q c, g = some k → q = 22 ∨ q = 41 → w.heap[k]? ≠ some (.cells c q (0, 0))) : Rows B lim w1 v outs := by
  obtain ⟨vs, h1, h2, h3, h4, h5⟩ := h.ex
  refine ⟨vs, h1, R_kept h2 hg (fun k q c hk hq => hne k q c hk (.inl (by simpa [slK, Kd.scalar] using hq))), fun i u o hu ho => inner_kept (h3 i u o hu ho) hg hB (fun k hk he => ?_), h4, h5⟩
  obtain ⟨c, hc⟩ := Kd.N_typed (h3 i u o hu ho) k he
  exact hne k 41 c hk (.inr rfl) hc
theorem rows_nil (B lim : Nat) (w : World) : Rows B lim w (.slice none 0 0) [] := ⟨[], rfl, Kd.R_nil _ _ _ _ _, fun i u o hu => by simp at hu, fun i j ui uj _ hu => by simp at hu, fun i u hu => by simp at hu⟩
theorem rows_lim {B lim : Nat} {w : World} {v : Value} {outs : List (List S41)} (h : Rows B lim w v outs) : Rows B w.heap.size w v outs := by
  obtain ⟨vs, h1, h2, h3, h4, _⟩ := h.ex
  refine ⟨vs, h1, h2, h3, h4, fun i u hu b hb => ?_⟩
  have hi := (List.getElem?_eq_some_iff.1 hu).1
  exact Kd.N_lt (h3 i u (outs[i]'(by omega)) hu (List.getElem?_eq_getElem _)) b hb
/-- A nil row is put behind. -/
theorem rows_app {B lim : Nat} {w w1 : World} {v v1 : Value} {outs : List (List S41)} (vs : List SL) (h1 : vs.length = outs.length) (h3 : ∀ (i : Nat) (u : SL) (o : List S41), vs[i]? = some u → outs[i]? = some o → Kd.N k41 41 w B (okI B (sv u)) (sv u) o)
    (h4 : ∀ (i j : Nat) (ui uj : SL), i ≠ j → vs[i]? = some ui → vs[j]? = some uj → ∀ b, (sv ui).ownBlock = some b → (sv uj).ownBlock ≠ some b)
    (h5 : ∀ (i : Nat) (u : SL), vs[i]? = some u → ∀ b, (sv u).ownBlock = some b → b < lim)
    (h2 : slK.R 22 w B (fun _ => True) v vs) (hg : w.grownBy w1 v.ownBlock) (h : slK.R 22 w1 B (fun _ => True) v1 (vs ++ [(none, 0, 0)])) : Rows B lim w1 v1 (outs ++ [[]]) := by
  have hB : ∀ k, v.ownBlock = some k → B ≤ k := Kd.R_base h2
  have hT : ∀ k, v.ownBlock = some k → ∃ c, w.heap[k]? = some (.cells c 22 (0, 0)) := Kd.R_typed h2
  refine ⟨vs ++ [(none, 0, 0)], by simp [h1], h, fun i u o hu ho => ?_, fun i j ui uj hij hu hj b hb => ?_, fun i u hu b hb => ?_⟩
  · by_cases hi : i < vs.length
    · rw [List.getElem?_append_left hi] at hu
      rw [List.getElem?_append_left (by omega)] at ho
      refine inner_kept (h3 i u o hu ho) hg hB (fun k hk he => ?_)
      obtain ⟨c, hc⟩ := Kd.N_typed (h3 i u o hu ho) k he
      obtain ⟨c', hc'⟩ := hT k hk
      rw [hc] at hc'; simp at hc'
    · rw [List.getElem?_append_right (by omega)] at hu ho
      have : i - vs.length = 0 := by
        have := (List.getElem?_eq_some_iff.1 hu).1; simp at this; omega
      have hi2 : i - outs.length = 0 := by omega
      rw [this] at hu; rw [hi2] at ho
      simp at hu ho
      subst hu; subst ho
      exact Kd.N_nil _ _ _ _ _
  · by_cases hi : i < vs.length
    · rw [List.getElem?_append_left hi] at hu
      by_cases hj2 : j < vs.length
      · rw [List.getElem?_append_left hj2] at hj
        exact h4 i j ui uj hij hu hj b hb
      · rw [List.getElem?_append_right (by omega)] at hj
        have : j - vs.length = 0 := by
          have := (List.getElem?_eq_some_iff.1 hj).1; simp at this; omega
        rw [this] at hj
        simp at hj
        subst hj
        simp [sv, Value.ownBlock]
    · rw [List.getElem?_append_right (by omega)] at hu
      have : i - vs.length = 0 := by
        have := (List.getElem?_eq_some_iff.1 hu).1; simp at this; omega
      rw [this] at hu
      simp at hu
      subst hu
      simp [sv, Value.ownBlock] at hb
  · by_cases hi : i < vs.length
    · rw [List.getElem?_append_left hi] at hu
      exact h5 i u hu b hb
    · rw [List.getElem?_append_right (by omega)] at hu
      have : i - vs.length = 0 := by
        have := (List.getElem?_eq_some_iff.1 hu).1; simp at this; omega
      rw [this] at hu
      simp at hu
      subst hu
      simp [sv, Value.ownBlock] at hb
/-- An inner row has grown; the row of rows is told of it. -/
theorem rows_put {B : Nat} {w w1 : World} {gb cap n : Nat} {outs : List (List S41)} {vs : List SL} (h1 : vs.length = outs.length) (h3 : ∀ (i : Nat) (u : SL) (o : List S41), vs[i]? = some u → outs[i]? = some o → Kd.N k41 41 w B (okI B (sv u)) (sv u) o)
    (h4 : ∀ (i j : Nat) (ui uj : SL), i ≠ j → vs[i]? = some ui → vs[j]? = some uj → ∀ b, (sv ui).ownBlock = some b → (sv uj).ownBlock ≠ some b)
    (h2 : slK.R 22 w B (fun _ => True) (.slice (some ⟨gb, 0, none⟩) n cap) vs) {j : Nat} {u u' : SL} {o o' : List S41} (hu : vs[j]? = some u) (ho : outs[j]? = some o) (hg : w.grownBy w1 (sv u).ownBlock)
    (hat : (sv u').ownBlock = (sv u).ownBlock ∨ ∃ b, (sv u').ownBlock = some b ∧ w.heap.size ≤ b) (h : Kd.N k41 41 w1 B (okI B (sv u')) (sv u') o') :
    Rows B (w1.setCell ⟨gb, j, none⟩ (sv u')).heap.size (w1.setCell ⟨gb, j, none⟩ (sv u')) (.slice (some ⟨gb, 0, none⟩) n cap) (outs.set j o') ∧ w1.grownBy (w1.setCell ⟨gb, j, none⟩ (sv u')) (some gb) := by
  have hT := Kd.R_typed h2 gb (by simp [Value.ownBlock])
  have hBg := Kd.R_base h2 gb (by simp [Value.ownBlock])
  have hBu := Kd.N_base (h3 j u o hu ho)
  have hTu := Kd.N_typed (h3 j u o hu ho)
  have h2' : slK.R 22 w1 B (fun _ => True) (.slice (some ⟨gb, 0, none⟩) n cap) vs := R_kept h2 hg (fun k q c hk hq => by
    have hq' : q = 22 := by simpa [slK, Kd.scalar] using hq
    obtain ⟨c', hc'⟩ := hTu k hk
    rw [hc']; subst hq'; simp)
  obtain ⟨rfl, _⟩ := Kd.R_reads' h2'
  obtain ⟨hR, hg2⟩ := Kd.R_put h2' (j : Int) u'
  simp only [Int.toNat_natCast] at hR hg2
  suffices h : (∀ (i : Nat) (u : SL) (o : List S41), (vs.set j u')[i]? = some u → (outs.set j o')[i]? = some o → Kd.N k41 41 (w1.setCell ⟨gb, j, none⟩ (sv u')) B (okI B (sv u)) (sv u) o) ∧
      ∀ (i i2 : Nat) (ui uj : SL), i ≠ i2 → (vs.set j u')[i]? = some ui → (vs.set j u')[i2]? = some uj → ∀ b, (sv ui).ownBlock = some b → (sv uj).ownBlock ≠ some b from
    ⟨⟨vs.set j u', by simp [h1], hR, h.1, h.2, fun i u hu b hb => by
      have hi := (List.getElem?_eq_some_iff.1 hu).1
      exact Kd.N_lt (h.1 i u ((outs.set j o')[i]'(by simp at hi ⊢; omega)) hu (List.getElem?_eq_getElem _)) b hb⟩, hg2⟩
  refine ⟨fun i u1 o1 hu1 ho1 => ?_, fun i i2 ui uj hij hui huj b hb => ?_⟩
  · have hgt : ∀ (z : SL) (oz : List S41), Kd.N k41 41 w1 B (okI B (sv z)) (sv z) oz → Kd.N k41 41 (w1.setCell ⟨gb, j, none⟩ (sv u')) B (okI B (sv z)) (sv z) oz := fun z oz hz => by
      refine inner_kept hz hg2 (fun k hk => by injection hk with hk; omega) (fun k hk he => ?_)
      obtain ⟨c, hc⟩ := Kd.N_typed hz k he
      obtain ⟨c', hc'⟩ := Kd.R_typed h2' gb (by simp [Value.ownBlock])
      injection hk with hk
      subst hk
      rw [hc] at hc'; simp at hc'
    by_cases hji : i = j
    · subst hji
      have hl := (List.getElem?_eq_some_iff.1 hu).1
      rw [List.getElem?_set_self hl] at hu1
      rw [List.getElem?_set_self (by omega)] at ho1
      injection hu1 with hu1; injection ho1 with ho1
      subst hu1; subst ho1
      exact hgt _ _ h
    · rw [List.getElem?_set_ne (fun e => hji e.symm)] at hu1 ho1
      exact hgt _ _ (inner_kept (h3 i u1 o1 hu1 ho1) hg hBu (fun k hk => fun he => h4 i j u1 u hji hu1 hu k he hk))
  · have hnew : ∀ (i : Nat) (ui : SL), i ≠ j → vs[i]? = some ui → ∀ b, (sv ui).ownBlock = some b → (sv u').ownBlock ≠ some b := fun i ui hi hui b hb he => by
      rcases hat with hat | ⟨b', hb', hle⟩
      · rw [hat] at he
        exact h4 i j ui u hi hui hu b hb he
      · rw [hb'] at he
        injection he with he
        subst he
        have hil : i < outs.length := by rw [← h1]; exact (List.getElem?_eq_some_iff.1 hui).1
        have := Kd.N_lt (h3 i ui outs[i] hui (List.getElem?_eq_getElem hil)) _ hb
        omega
    by_cases hi : i = j
    · subst hi
      have hl := (List.getElem?_eq_some_iff.1 hu).1
      rw [List.getElem?_set_self hl] at hui
      injection hui with hui
      subst hui
      rw [List.getElem?_set_ne hij] at huj
      exact fun he => hnew i2 uj (fun e => hij e.symm) huj b he hb
    · rw [List.getElem?_set_ne (fun e => hi e.symm)] at hui
      by_cases hi2 : i2 = j
      · subst hi2
        have hl := (List.getElem?_eq_some_iff.1 hu).1
        rw [List.getElem?_set_self hl] at huj
        injection huj with huj
        subst huj
        exact hnew i ui hi hui b hb
      · rw [List.getElem?_set_ne (fun e => hi2 e.symm)] at huj
        exact h4 i i2 ui uj hij hui huj b hb
end Go.Proofs.YtoncpeadbhgmaaaGreatDoor.G

set_option linter.unusedVariables false
set_option linter.unusedSimpArgs false
namespace Go.Proofs.YtoncpeadbhgmaaaGreatDoor.G
open Go.RowKit Go.Sort Go.Shelf Go.Proofs.YtoncpeadbhgmaaaGreatDoorW.PrintWords Go.Proofs.YtoncpeadbhgmaaaGreatDoorW.PrintLast Go.Proofs.YtoncpeadbhgmaaaGreatDoorW.PrintMore

/-- Two slices side by side. -/
def slK2 : Kd (SL × SL) := Kd.pair slK slK
abbrev Part := List S89 × List S41
theorem slK2_K {w : World} {u : SL × SL} {c : List Value} (h : slK2.K w u c) : c = [sv u.1, sv u.2] := by
  obtain ⟨c0, c1, rfl, h0, h1⟩ := h
  have h0' : c0 = [sv u.1] := h0
  have h1' : c1 = [sv u.2] := h1
  subst h0'; subst h1'; rfl
theorem slK2_M {w : World} {b : Nat} {ok : Nat → Prop} (u : SL × SL) : slK2.M w b ok u [sv u.1, sv u.2] := ⟨[sv u.1], [sv u.2], rfl, rfl, rfl⟩
/-- What the two slices of each element lead to. -/
structure PIn (B lim : Nat) (w : World) (vs : List (SL × SL)) (outs : List Part) : Prop where
  len : vs.length = outs.length
  lab : ∀ (i : Nat) (u : SL × SL) (o : Part), vs[i]? = some u → outs[i]? = some o → Kd.N k89 89 w B (okI B (sv u.1)) (sv u.1) o.1
  pts : ∀ (i : Nat) (u : SL × SL) (o : Part), vs[i]? = some u → outs[i]? = some o → Kd.N k41 41 w B (okI B (sv u.2)) (sv u.2) o.2
  apart : ∀ (i j : Nat) (ui uj : SL × SL), i ≠ j → vs[i]? = some ui → vs[j]? = some uj → ∀ b, (sv ui.2).ownBlock = some b → (sv uj.2).ownBlock ≠ some b
  lim : ∀ (i : Nat) (u : SL × SL), vs[i]? = some u → ∀ b, (sv u.2).ownBlock = some b → b < lim
theorem n_kept {α : Type} {d : Kd α} {e B : Nat} {w w1 : World} {v : Value} {o : List α} (h : Kd.N d e w B (okI B v) v o) {g : Option Nat} (hg : w.grownBy w1 g) (hB : ∀ k, g = some k → B ≤ k) (hne : ∀ k, g = some k → v.ownBlock ≠ some k) :
    Kd.N d e w1 B (okI B v) v o := by
  refine Kd.N_step h (fun k hk hlt => hg.block k hlt (fun e => ?_))
  rcases hk with hk | hk
  · have := hB k e.symm; omega
  · exact hne k e.symm hk.symm
theorem pin_kept {B lim : Nat} {w w1 : World} {vs : List (SL × SL)} {outs : List Part} (h : PIn B lim w vs outs) {g : Option Nat} (hg : w.grownBy w1 g) (hB : ∀ k, g = some k → B ≤ k)
    (hne : ∀ k q c, g = some k → q = 89 ∨ q = 41 → w.heap[k]? ≠ some (.cells c q (0, 0))) : PIn B lim w1 vs outs where
  len := h.len
  lab := fun i u o hu ho => n_kept (h.lab i u o hu ho) hg hB (fun k hk he => by
    obtain ⟨c, hc⟩ := Kd.N_typed (h.lab i u o hu ho) k he
    exact hne k 89 c hk (.inl rfl) hc)
  pts := fun i u o hu ho => n_kept (h.pts i u o hu ho) hg hB (fun k hk he => by
    obtain ⟨c, hc⟩ := Kd.N_typed (h.pts i u o hu ho) k he
    exact hne k 41 c hk (.inr rfl) hc)
  apart := h.apart
  lim := h.lim
theorem pin_t {B lim : Nat} {w w1 : World} {vs : List (SL × SL)} {outs : List Part} (h : PIn B lim w vs outs) {g : Option Nat} (hg : w.grownBy w1 g) (hB : ∀ k, g = some k → B ≤ k) (q : Nat) (hq : q ≠ 89 ∧ q ≠ 41) (ht : ∀ k, g = some k → ∃ c, w.heap[k]? = some (.cells c q (0, 0))) : PIn B lim w1 vs outs :=
  pin_kept h hg hB (fun k q' c hk hq' => by
    obtain ⟨c', hc'⟩ := ht _ hk
    rw [hc']
    simp
    intro _ e2
    subst e2
    rcases hq' with h | h
    · exact hq.1 h
    · exact hq.2 h)
theorem pin_below {B lim : Nat} {w w1 : World} {vs : List (SL × SL)} {outs : List Part} (h : PIn B lim w vs outs) (hb : Below w.heap.size w w1) : PIn B lim w1 vs outs :=
  pin_kept h (grown_none hb) (fun k e => by cases e) (fun k q c e => by cases e)
theorem pin_lim {B lim : Nat} {w : World} {vs : List (SL × SL)} {outs : List Part} (h : PIn B lim w vs outs) : PIn B w.heap.size w vs outs where
  len := h.len
  lab := h.lab
  pts := h.pts
  apart := h.apart
  lim := fun i u hu b hb => by
    have hi := (List.getElem?_eq_some_iff.1 hu).1
    have hl := h.len
    exact Kd.N_lt (h.pts i u (outs[i]'(by omega)) hu (List.getElem?_eq_getElem _)) b hb
theorem pin_nil (B lim : Nat) (w : World) : PIn B lim w [] [] := ⟨rfl, fun i u o hu => by simp at hu, fun i u o hu => by simp at hu, fun i j ui uj _ hu => by simp at hu, fun i u hu => by simp at hu⟩
theorem ins_get {α : Type} (l : List α) (x : α) (k : Nat) (hk : k ≤ l.length) (i : Nat) : (l.take k ++ [x] ++ l.drop k)[i]? = if i < k then l[i]? else if i = k then some x else l[i - 1]? := by
  have ht : (l.take k).length = k := by rw [List.length_take]; omega
  by_cases h1 : i < k
  · rw [if_pos h1, List.append_assoc, List.getElem?_append_left (by omega), List.getElem?_take, if_pos h1]
  · rw [if_neg h1, List.append_assoc, List.getElem?_append_right (by omega), ht]
    by_cases h2 : i = k
    · subst h2; simp
    · rw [if_neg h2, List.getElem?_append_right (by simp; omega), List.getElem?_drop]
      congr 1; simp; omega
/-- A new one is put in between. -/
theorem pin_ins {B lim : Nat} {w : World} {vs : List (SL × SL)} {outs : List Part} (h : PIn B lim w vs outs) (k : Nat) (hk : k ≤ vs.length) (u : SL × SL) (o : Part) (hl : Kd.N k89 89 w B (okI B (sv u.1)) (sv u.1) o.1) (hp : Kd.N k41 41 w B (okI B (sv u.2)) (sv u.2) o.2)
    (hnew : ∀ b, (sv u.2).ownBlock = some b → lim ≤ b) : PIn B w.heap.size w (vs.take k ++ [u] ++ vs.drop k) (outs.take k ++ [o] ++ outs.drop k) := by
  have hlen := h.len
  have e1 := ins_get vs u k hk
  have e2 := ins_get outs o k (by omega)
  have old : ∀ i x, (if i < k then vs[i]? else if i = k then some u else vs[i - 1]?) = some x → (x = u ∧ i = k) ∨ ∃ j, vs[j]? = some x ∧ (if i < k then outs[i]? else if i = k then some o else outs[i - 1]?) = outs[j]? ∧ i ≠ k ∧ (j = if i < k then i else i - 1) := fun i x hx => by
    by_cases h1 : i < k
    · rw [if_pos h1] at hx
      exact .inr ⟨i, hx, by rw [if_pos h1], by omega, by rw [if_pos h1]⟩
    · rw [if_neg h1] at hx
      by_cases h2 : i = k
      · rw [if_pos h2] at hx
        exact .inl ⟨(Option.some.inj hx).symm, h2⟩
      · rw [if_neg h2] at hx
        exact .inr ⟨i - 1, hx, by rw [if_neg h1, if_neg h2], h2, by rw [if_neg h1]⟩
  refine pin_lim (lim := w.heap.size) ⟨by simp; omega, fun i x y hx hy => ?_, fun i x y hx hy => ?_, fun i j x y hij hx hy b hb => ?_, fun i x hx b hb => ?_⟩
  · rw [e1] at hx; rw [e2] at hy
    rcases old i x hx with ⟨rfl, rfl⟩ | ⟨j, hj, e, _, _⟩
    · simp at hy; subst hy; exact hl
    · rw [e] at hy; exact h.lab j x y hj hy
  · rw [e1] at hx; rw [e2] at hy
    rcases old i x hx with ⟨rfl, rfl⟩ | ⟨j, hj, e, _, _⟩
    · simp at hy; subst hy; exact hp
    · rw [e] at hy; exact h.pts j x y hj hy
  · rw [e1] at hx hy
    rcases old i x hx with ⟨rfl, rfl⟩ | ⟨a, ha, _, hik, ea⟩
    · rcases old j y hy with ⟨rfl, rfl⟩ | ⟨c, hc, _, _, _⟩
      · exact absurd rfl hij
      · intro he
        have := h.lim c y hc b he
        have := hnew b hb
        omega
    · rcases old j y hy with ⟨rfl, rfl⟩ | ⟨c, hc, _, hjk, ec⟩
      · intro he
        have := h.lim a x ha b hb
        have := hnew b he
        omega
      · refine h.apart a c x y (fun e => hij ?_) ha hc b hb
        rw [ea, ec] at e
        split at e <;> split at e <;> omega
  · rw [e1] at hx
    rcases old i x hx with ⟨rfl, rfl⟩ | ⟨j, hj, _, _, _⟩
    · exact Kd.N_lt hp b hb
    · have hi := (List.getElem?_eq_some_iff.1 hj).1
      exact Kd.N_lt (h.pts j x (outs[j]'(by omega)) hj (List.getElem?_eq_getElem _)) b hb
/-- The points of one have grown; the row is told of it. -/
theorem slK2_put {w : World} {base : Nat} {ok : Nat → Prop} {g n cap : Nat} {vs : List (SL × SL)} (h : slK2.R 62 w base ok (.slice (some ⟨g, 0, none⟩) n cap) vs) (j : Nat) (u : SL × SL) (hu : vs[j]? = some u) (u' : SL) :
    slK2.R 62 (w.setCell ⟨g, j * 2 + 1, none⟩ (sv u')) base ok (.slice (some ⟨g, 0, none⟩) n cap) (vs.set j (u.1, u')) ∧ w.grownBy (w.setCell ⟨g, j * 2 + 1, none⟩ (sv u')) (some g) := by
  obtain ⟨hn, _, _⟩ := Kd.R_reads' h
  subst hn
  obtain ⟨h0, inner, ho, hr⟩ := h
  obtain ⟨hs, hg⟩ := ho.stored (j * 2 + 1) (sv u')
  refine ⟨⟨h0, inner.set (j * 2 + 1) (sv u'), by rw [List.length_set]; exact hs, by simpa [Reps, slK2, Kd.pair, slK, Kd.scalar] using hr.1, fun i x hx => ?_⟩, hg⟩
  have hj := (List.getElem?_eq_some_iff.1 hu).1
  have hil : i < vs.length := by have := (List.getElem?_eq_some_iff.1 hx).1; simpa using this
  have hsz : slK2.sz = 2 := rfl
  have hil2 : inner.length = vs.length * 2 := hr.1
  have hcells : ∀ i, i < vs.length → ∀ y, vs[i]? = some y → (inner.drop (i * 2)).take 2 = [sv y.1, sv y.2] := fun i hi y hy => by
    obtain ⟨c0, c1, hc, h0', h1'⟩ := hr.2 i y hy
    have a : c0 = [sv y.1] := h0'
    have b : c1 = [sv y.2] := h1'
    rw [a, b] at hc
    exact hc
  rw [hsz]
  by_cases hij : i = j
  · subst hij
    rw [List.getElem?_set_self hj] at hx
    obtain rfl := Option.some.inj hx
    have h2 := hcells i hil u hu
    have : ((inner.set (i * 2 + 1) (sv u')).drop (i * 2)).take 2 = [sv u.1, sv u'] := by
      rw [List.drop_set, if_neg (by omega), List.take_set, h2, show i * 2 + 1 - i * 2 = 1 by omega]
      rfl
    rw [this]
    exact slK2_M (u.1, u')
  · rw [List.getElem?_set_ne (fun e => hij e.symm)] at hx
    have h2 := hcells i hil x hx
    have : ((inner.set (j * 2 + 1) (sv u')).drop (i * 2)).take 2 = (inner.drop (i * 2)).take 2 := by
      apply List.ext_getElem?
      intro m
      rw [List.getElem?_take, List.getElem?_take]
      split
      · rw [List.getElem?_drop, List.getElem?_drop, List.getElem?_set_ne (by omega)]
      · rfl
    rw [this, h2]
    exact slK2_M x
theorem pin_put {B lim : Nat} {w w1 : World} {vs : List (SL × SL)} {outs : List Part} (h : PIn B lim w vs outs) {j : Nat} {u : SL × SL} {u' : SL} {o : Part} {o' : List S41} (hu : vs[j]? = some u) (ho : outs[j]? = some o) (hg : w.grownBy w1 (sv u.2).ownBlock)
    (hat : (sv u').ownBlock = (sv u.2).ownBlock ∨ ∃ b, (sv u').ownBlock = some b ∧ w.heap.size ≤ b) (hN : Kd.N k41 41 w1 B (okI B (sv u')) (sv u') o') : PIn B w1.heap.size w1 (vs.set j (u.1, u')) (outs.set j (o.1, o')) := by
  have hlen := h.len
  have hBu := Kd.N_base (h.pts j u o hu ho)
  have hjl := (List.getElem?_eq_some_iff.1 hu).1
  have hTu := Kd.N_typed (h.pts j u o hu ho)
  have hlab : ∀ (i : Nat) (x : SL × SL) (y : Part), vs[i]? = some x → outs[i]? = some y → Kd.N k89 89 w1 B (okI B (sv x.1)) (sv x.1) y.1 := fun i x y hx hy =>
    n_kept (h.lab i x y hx hy) hg hBu (fun k hk he => by
      obtain ⟨c, hc⟩ := Kd.N_typed (h.lab i x y hx hy) k he
      obtain ⟨c', hc'⟩ := hTu k hk
      rw [hc] at hc'; simp at hc')
  have hnew : ∀ (i : Nat) (ui : SL × SL), i ≠ j → vs[i]? = some ui → ∀ b, (sv ui.2).ownBlock = some b → (sv u').ownBlock ≠ some b := fun i ui hi hui b hb he => by
    rcases hat with hat | ⟨b', hb', hle⟩
    · rw [hat] at he
      exact h.apart i j ui u hi hui hu b hb he
    · rw [hb'] at he
      injection he with he
      subst he
      have hil : i < outs.length := by rw [← hlen]; exact (List.getElem?_eq_some_iff.1 hui).1
      have := Kd.N_lt (h.pts i ui outs[i] hui (List.getElem?_eq_getElem hil)) _ hb
      omega
  refine pin_lim (lim := w1.heap.size) ⟨by simp [hlen], fun i x y hx hy => ?_, fun i x y hx hy => ?_, fun i i2 x y hij hx hy b hb => ?_, fun i x hx b hb => ?_⟩
  · by_cases hij : i = j
    · subst hij
      rw [List.getElem?_set_self hjl] at hx
      rw [List.getElem?_set_self (by omega)] at hy
      obtain rfl := Option.some.inj hx
      obtain rfl := Option.some.inj hy
      exact hlab i u o hu ho
    · rw [List.getElem?_set_ne (fun e => hij e.symm)] at hx hy
      exact hlab i x y hx hy
  · by_cases hij : i = j
    · subst hij
      rw [List.getElem?_set_self hjl] at hx
      rw [List.getElem?_set_self (by omega)] at hy
      obtain rfl := Option.some.inj hx
      obtain rfl := Option.some.inj hy
      exact hN
    · rw [List.getElem?_set_ne (fun e => hij e.symm)] at hx hy
      exact n_kept (h.pts i x y hx hy) hg hBu (fun k hk he => h.apart i j x u hij hx hu k he hk)
  · by_cases hi : i = j
    · subst hi
      rw [List.getElem?_set_self hjl] at hx
      obtain rfl := Option.some.inj hx
      rw [List.getElem?_set_ne hij] at hy
      exact fun he => hnew i2 y (fun e => hij e.symm) hy b he hb
    · rw [List.getElem?_set_ne (fun e => hi e.symm)] at hx
      by_cases hi2 : i2 = j
      · subst hi2
        rw [List.getElem?_set_self hjl] at hy
        obtain rfl := Option.some.inj hy
        exact hnew i x hi hx b hb
      · rw [List.getElem?_set_ne (fun e => hi2 e.symm)] at hy
        exact h.apart i i2 x y hij hx hy b hb
  · by_cases hi : i = j
    · subst hi
      rw [List.getElem?_set_self hjl] at hx
      obtain rfl := Option.some.inj hx
      exact Kd.N_lt hN b hb
    · rw [List.getElem?_set_ne (fun e => hi e.symm)] at hx
      have hil := (List.getElem?_eq_some_iff.1 hx).1
      exact Nat.lt_of_lt_of_le (Kd.N_lt (h.pts i x (outs[i]'(by omega)) hx (List.getElem?_eq_getElem _)) b hb) hg.size
/-- An element: its cells, and what they read. -/
theorem part_at {B lim : Nat} {w : World} {base : Nat} {ok : Nat → Prop} {v : Value} {vs : List (SL × SL)} {outs : List Part} (h : slK2.R 62 w base ok v vs) (hI : PIn B lim w vs outs) : ∃ A c, v = .slice A outs.length c ∧ outs.length ≤ 9223372036854775807 ∧ outs.length ≤ c ∧
    ∀ i (hi : i < outs.length), ∃ gb Al cl Ap cp, A = some ⟨gb, 0, none⟩ ∧ vs[i]? = some ((Al, outs[i].1.length, cl), (Ap, outs[i].2.length, cp)) ∧ w.cell? ⟨gb, i * 2, none⟩ = some (.slice Al outs[i].1.length cl) ∧ w.cell? ⟨gb, i * 2 + 1, none⟩ = some (.slice Ap outs[i].2.length cp) ∧
      w.frozen? ⟨gb, i * 2 + 1, none⟩ = false ∧ outs[i].1.length ≤ cl ∧ outs[i].2.length ≤ cp ∧ Kd.C k89 w Al outs[i].1.length outs[i].1 ∧ Kd.C k41 w Ap outs[i].2.length outs[i].2 := by
  have h1 := hI.len
  obtain ⟨A, c, rfl⟩ := Kd.R_slice h
  obtain ⟨-, hc0, hC⟩ := Kd.R_reads' h
  refine ⟨A, c, by rw [h1], by rw [← h1]; exact Kd.C_max hC, by rw [← h1]; exact hc0, fun i hi => ?_⟩
  obtain ⟨ad, cs, rfl, -⟩ := Kd.C_get hC (((none, 0, 0), (none, 0, 0)) : SL × SL) (i : Int) (by omega) (by omega)
  obtain ⟨gb, rfl⟩ := Kd.R_head h
  obtain ⟨cz, hcl, hcM, hcc, hfr⟩ := Kd.R_elem h (((none, 0, 0), (none, 0, 0)) : SL × SL) (i : Int) (by omega) (by omega)
  have hiv : i < vs.length := by omega
  have hu : vs.getD (i : Int).toNat ((none, 0, 0), (none, 0, 0)) = vs[i] := by simp [List.getD_eq_getElem?_getD, hiv]
  rw [hu] at hcM
  have hcs := slK2_K (slK2.K_of_M hcM)
  subst hcs
  have c0 := hcc 0 _ rfl
  have c1 := hcc 1 _ rfl
  have f1 := hfr 1
  have hL := hI.lab i vs[i] outs[i] (List.getElem?_eq_getElem hiv) (List.getElem?_eq_getElem hi)
  have hP := hI.pts i vs[i] outs[i] (List.getElem?_eq_getElem hiv) (List.getElem?_eq_getElem hi)
  have hvi : vs[i]? = some vs[i] := List.getElem?_eq_getElem hiv
  generalize vs[i] = uu at hL hP c0 c1 hvi
  obtain ⟨⟨A1, n1, c1'⟩, ⟨A2, n2, c2'⟩⟩ := uu
  obtain ⟨hn1, hnc1, hC1⟩ := Kd.N_reads' hL
  obtain ⟨hn2, hnc2, hC2⟩ := Kd.N_reads' hP
  have hn1' : n1 = outs[i].1.length := hn1
  have hn2' : n2 = outs[i].2.length := hn2
  subst hn1'; subst hn2'
  have e0 : (i : Int).toNat * slK2.sz + 0 = i * 2 := rfl
  have e1 : (i : Int).toNat * slK2.sz + 1 = i * 2 + 1 := rfl
  rw [e0] at c0
  rw [e1] at c1 f1
  exact ⟨gb, A1, c1', A2, c2', rfl, hvi, c0, c1, f1, hnc1, hnc2, hC1, hC2⟩
end Go.Proofs.YtoncpeadbhgmaaaGreatDoor.G

