/- Parts of the proof of AggrGroup. -/
import Derived.ArgAppend
import Derived.Below
import Derived.BigQuiet
import Derived.Deep.AppendLies
import Derived.Deep.CutBlock
import Derived.Deep.DeepCutAuto
import Derived.Deep.Draws
import Derived.Deep.LoopGhost
import Derived.Deep.OwnRows
import Derived.Deep.QuietTactic
import Derived.Deep.RegionHeld3
import Derived.Ground.NamesProg
import Derived.IntWalk
import Derived.KernelRfl
import Derived.Laws.BitsLemmas
import Derived.Laws.BytesArg
import Derived.Laws.Externs
import Derived.Laws.IdiomCopy
import Derived.Laws.MakeOwn
import Derived.Laws.OwnMore
import Derived.Laws.Rows
import Derived.Laws.Slices
import Derived.Laws.StructEq
import Derived.Lib.AppendStr
import Derived.Lib.ConvBytes
import Derived.Lib.TrimUEq
import Derived.Lib.ValidLaws
import Derived.Maps.AppendAt
import Derived.OrdersHeld
import Derived.Outline
import Derived.OwnWalk
import Derived.RowKit
import Derived.RowKit3
import Derived.Shelf.Bits.Mul64
import Derived.Shelf.SlSortCmp.NoneTotal
import Derived.Shelf.Small.Strs
import Derived.Shelf.Strings.Search1
import Derived.Shelf.Unicode.ValidAny
import Derived.Sort.Grow
import Derived.Tactics
import Derived.Test.YtoncpeadbhgmaaaGreatDoorGg0
import Derived.Test.YtoncpeadbhgmaaaGreatDoorGg1
import Derived.Test.YtoncpeadbhgmaaaGreatDoorGg3
import Derived.Test.YtoncpeadbhgmaaaGreatDoorProg
import Derived.WalkKit
import Derived.WalkSpells
import Derived.WideLaws
namespace Go.Proofs.YtoncpeadbhgmaaaGreatDoor.G
open Go.RowKit Go.Proofs.YtoncpeadbhgmaaaGreatDoorW.PrintWords Go.Proofs.YtoncpeadbhgmaaaGreatDoorW.PrintLast Go.Proofs.YtoncpeadbhgmaaaGreatDoorW.PrintMore
attribute [local go_sem] max2_int min2_int max_two min_two max_three min_three max_four min_four   -- for this text's walks alone
set_option linter.unusedVariables false
set_option linter.unusedSimpArgs false

mutual
def tocsinref04_Compare.l0 : Nat → List (S89) → List (S89) → Int → Option (Int)
  | 0, _, _, _ => none
  | k + 1, x0, x1, x5 => if x5 < (x0.length : Int) then (tocsinref04_Compare.j1 k x0 x1 x5 (decide (x5 < (x1.length : Int)))) else (tocsinref04_Compare.j1 k x0 x1 x5 false)
def tocsinref04_Compare.j1 : Nat → List (S89) → List (S89) → Int → Bool → Option (Int)
  | 0, _, _, _, _ => none
  | k + 1, x0, x1, x5, x17 => if x17 = true then (if 0 ≤ x5 then (if x5 < (x0.length : Int) then (if x5 < (x1.length : Int) then ((tocsinref04_side.f ((rd_T89 x0 x5).f0) ((rd_T89 x1 x5).f0)).bind fun t164 => (if t164 = 0 then ((tocsinref04_side.f ((rd_T89 x0 x5).f1) ((rd_T89 x1 x5).f1)).bind fun t167 => (if t167 = 0 then (tocsinref04_Compare.l0 k x0 x1 (wrap64 (x5 + 1))) else (some t167))) else (some t164))) else (none)) else (none)) else (none)) else (if (x0.length : Int) < (x1.length : Int) then (some (-1)) else (if (x0.length : Int) > (x1.length : Int) then (some 1) else (some 0)))
end
def tocsinref04_Compare.f (k : Nat) (l0 : List (S89)) (l1 : List (S89)) : Option (Int) := tocsinref04_Compare.l0 k l0 l1 0
theorem tocsinref04_Compare.mono_l : ∀ k, (∀ y0 y1 y2, LeO (tocsinref04_Compare.l0 k y0 y1 y2) (tocsinref04_Compare.l0 (k + 1) y0 y1 y2)) ∧ (∀ y0 y1 y2 y3, LeO (tocsinref04_Compare.j1 k y0 y1 y2 y3) (tocsinref04_Compare.j1 (k + 1) y0 y1 y2 y3))
  | 0 => ⟨fun _ _ _ r h => by simp [tocsinref04_Compare.l0] at h, fun _ _ _ _ r h => by simp [tocsinref04_Compare.j1] at h⟩
  | k + 1 => by
    obtain ⟨ih0, ih1⟩ := tocsinref04_Compare.mono_l k
    refine ⟨?_, ?_⟩
    · intro y0 y1 y2
      unfold tocsinref04_Compare.l0
      repeat' first
      | (with_reducible exact ih0 _ _ _)
      | (with_reducible exact ih1 _ _ _ _)
      | (with_reducible exact LeO.refl _)
      | (with_reducible exact LeO.none _)
      | (with_reducible refine LeO.ite ?_ ?_)
      | (with_reducible refine LeO.bind ?_ (fun _ => ?_))
      | exact ih0 _ _ _
      | exact ih1 _ _ _ _
      | exact LeO.none _
      | refine LeO.ite ?_ ?_
      | refine LeO.bind ?_ (fun _ => ?_)
    · intro y0 y1 y2 y3
      unfold tocsinref04_Compare.j1
      repeat' first
      | (with_reducible exact ih0 _ _ _)
      | (with_reducible exact ih1 _ _ _ _)
      | (with_reducible exact LeO.refl _)
      | (with_reducible exact LeO.none _)
      | (with_reducible refine LeO.ite ?_ ?_)
      | (with_reducible refine LeO.bind ?_ (fun _ => ?_))
      | exact ih0 _ _ _
      | exact ih1 _ _ _ _
      | exact LeO.none _
      | refine LeO.ite ?_ ?_
      | refine LeO.bind ?_ (fun _ => ?_)
theorem tocsinref04_Compare.mono : ∀ a0 a1 k, LeO (tocsinref04_Compare.f k a0 a1) (tocsinref04_Compare.f (k + 1) a0 a1) := by
  intro a0 a1 k
  obtain ⟨ih0, ih1⟩ := tocsinref04_Compare.mono_l k
  unfold tocsinref04_Compare.f
  repeat' first
      | (with_reducible exact ih0 _ _ _)
      | (with_reducible exact ih1 _ _ _ _)
      | (with_reducible exact LeO.refl _)
      | (with_reducible exact LeO.none _)
      | (with_reducible refine LeO.ite ?_ ?_)
      | (with_reducible refine LeO.bind ?_ (fun _ => ?_))
      | exact ih0 _ _ _
      | exact ih1 _ _ _ _
      | exact LeO.none _
      | refine LeO.ite ?_ ?_
      | refine LeO.bind ?_ (fun _ => ?_)
set_option maxHeartbeats 8000000 in
set_option maxRecDepth 100000 in
theorem tocsinref04_Compare.calls (k : Nat) (A0 : Option Addr) (c0 : Nat) (l0 : List (S89)) (A1 : Option Addr) (c1 : Nat) (l1 : List (S89)) (r : Int) (w : World) (hr0 : Kd.C k89 w A0 l0.length l0) (hc0 : l0.length ≤ c0) (hr1 : Kd.C k89 w A1 l1.length l1) (hc1 : l1.length ≤ c1) (h : tocsinref04_Compare.f k l0 l1 = some r) :
    Calls Tryz.prog 78 #[.slice A0 l0.length c0, .slice A1 l1.length c1] w fun e w' => e = .returned (.int .i64 r) ∧ Drawn0 w w' := by
  have HR0 := Aside0.mk hr0
  have HC0 := Aside0.mk hc0
  clear hr0 hc0
  have HR1 := Aside0.mk hr1
  have HC1 := Aside0.mk hc1
  clear hr1 hc1
  have H : (tocsinref04_Compare.l0 k l0 l1 0) = some r := h
  clear h
  have H' := Aside0.mk H
  clear H
  go_enter Tryz.func78, Tryz.ntmps78
  go_wp2
  repeat (go_quiet (fail); try go_wp2)
  go_loopg [5] k (fun kq v5 w' => ∃ (x5_1 : Int), v5 = .int .i64 x5_1 ∧ Aside0 (tocsinref04_Compare.l0 kq l0 l1 x5_1 = some r) ∧ Aside0 (kq ≤ k) ∧ Drawn0 w w')
  case atStart => exact ⟨(0), (by first | rfl | (simp; done) | (simp [*]; done)), H', ⟨Nat.le_refl _⟩, by repeat (first | exact Drawn0.refl _ | apply Drawn0.step)⟩
  case round =>
    clear H'
    try clear c1
    try clear p2
    obtain ⟨x5_1, rfl, HA, HK1, ⟨m1, rfl⟩⟩ := hrel
    cases gk with
    | zero => exact absurd HA.out (by simp [tocsinref04_Compare.l0])
    | succ k1 =>
      have H := HA.out
      clear HA
      simp only [tocsinref04_Compare.l0] at H
      have HC3 := Aside0.mk H
      clear H
      go_upto_region 2 with (fail)
      repeat (go_quiet (fail); go_upto_region 2 with (fail))
      go_cut [17] (fun v17 wc => ∃ (kq : Nat) (x17_2 : Bool), v17 = .bool x17_2 ∧ Aside0 (tocsinref04_Compare.j1 kq l0 l1 x5_1 x17_2 = some r) ∧ Aside0 (kq ≤ k1) ∧ Drawn0 w wc)
      case first =>
        have H := HC3.out
        clear HC3
        by_cases c4 : x5_1 < (l0.length : Int)
        · rw [if_pos c4] at H
          have c4b0 : decide (x5_1 < (l0.length : Int)) = true := decide_eq_true c4
          clear c4
          (first | rw [c4b0] | (simp only [i64_w, i32_w]; rw [c4b0]) | skip)
          have H' := Aside0.mk H
          clear H
          go_wp2
          repeat (go_quiet (fail); try go_wp2)
          go_meet
          case rel => exact ⟨_, (decide (x5_1 < (l1.length : Int))), (by first | rfl | (simp; done) | (simp [*]; done)), H', ⟨by have := HK1.out; first | omega | exact Nat.le_refl _⟩, by repeat (first | exact Drawn0.refl _ | apply Drawn0.step)⟩
        · rw [if_neg c4] at H
          have c4b0 : decide (x5_1 < (l0.length : Int)) = false := decide_eq_false c4
          clear c4
          (first | rw [c4b0] | (simp only [i64_w, i32_w]; rw [c4b0]) | skip)
          have H' := Aside0.mk H
          clear H
          go_wp2
          repeat (go_quiet (fail); try go_wp2)
          go_meet
          case rel => exact ⟨_, (false), (by first | rfl | (simp; done) | (simp [*]; done)), H', ⟨by have := HK1.out; first | omega | exact Nat.le_refl _⟩, by repeat (first | exact Drawn0.refl _ | apply Drawn0.step)⟩
      case rest =>
        clear HC3
        try clear c1
        try clear p2
        try clear c4
        try clear c4b0
        try clear p2
        obtain ⟨kq, x17_2, rfl, HA, HJ2, ⟨mc2, rfl⟩⟩ := hcut
        cases kq with
        | zero => exact absurd HA.out (by simp [tocsinref04_Compare.j1])
        | succ kj2 =>
          have H := HA.out
          clear HA
          simp only [tocsinref04_Compare.j1] at H
          by_cases c5 : x17_2 = true
          · subst c5
            have H1 : (if 0 ≤ x5_1 then (if x5_1 < (l0.length : Int) then (if x5_1 < (l1.length : Int) then ((tocsinref04_side.f ((rd_T89 l0 x5_1).f0) ((rd_T89 l1 x5_1).f0)).bind fun t164 => (if t164 = 0 then ((tocsinref04_side.f ((rd_T89 l0 x5_1).f1) ((rd_T89 l1 x5_1).f1)).bind fun t167 => (if t167 = 0 then (tocsinref04_Compare.l0 kj2 l0 l1 (wrap64 (x5_1 + 1))) else (some t167))) else (some t164))) else (none)) else (none)) else (none)) = some r := by rw [if_pos rfl] at H; exact H
            clear H
            have H := H1
            clear H1
            by_cases c6 : 0 ≤ x5_1
            · rw [if_pos c6] at H
              have c6b0 : decide (0 ≤ x5_1) = true := decide_eq_true c6
              clear c6
              by_cases c7 : x5_1 < (l0.length : Int)
              · rw [if_pos c7] at H
                have c7b0 : decide (x5_1 < (l0.length : Int)) = true := decide_eq_true c7
                clear c7
                by_cases c8 : x5_1 < (l1.length : Int)
                · rw [if_pos c8] at H
                  have c8b0 : decide (x5_1 < (l1.length : Int)) = true := decide_eq_true c8
                  clear c8
                  replace H := Option.bind_eq_some_iff.mp H
                  obtain ⟨t164, A90, H⟩ := H
                  replace H : (if t164 = 0 then ((tocsinref04_side.f ((rd_T89 l0 x5_1).f1) ((rd_T89 l1 x5_1).f1)).bind fun t167 => (if t167 = 0 then (tocsinref04_Compare.l0 kj2 l0 l1 (wrap64 (x5_1 + 1))) else (some t167))) else (some t164)) = some r := H
                  have A9 := Aside0.mk A90
                  clear A90
                  by_cases c10 : t164 = 0
                  · rw [if_pos c10] at H
                    have c10b0 : (t164 == 0) = true := beq_iff_eq.mpr c10
                    have c10b1 : (t164 != 0) = false := bne_eq_false_iff_eq.mpr c10
                    clear c10
                    replace H := Option.bind_eq_some_iff.mp H
                    obtain ⟨t167, A110, H⟩ := H
                    replace H : (if t167 = 0 then (tocsinref04_Compare.l0 kj2 l0 l1 (wrap64 (x5_1 + 1))) else (some t167)) = some r := H
                    have A11 := Aside0.mk A110
                    clear A110
                    by_cases c12 : t167 = 0
                    · rw [if_pos c12] at H
                      have c12b0 : (t167 == 0) = true := beq_iff_eq.mpr c12
                      have c12b1 : (t167 != 0) = false := bne_eq_false_iff_eq.mpr c12
                      clear c12
                      have H' := Aside0.mk H
                      clear H
                      have p162 : 0 ≤ (x5_1 : Int) := of_decide_eq_true (by first | (with_reducible assumption) | assumption)
                      have q162 : x5_1 < (l0.length : Int) := of_decide_eq_true (by first | (with_reducible assumption) | assumption)
                      obtain ⟨ad162, e162, hx162_0, hx162_1⟩ := at_T89 HR0.out x5_1 p162 q162
                      cases e162
                      replace p162 := eq_true p162
                      replace q162 := eq_true q162
                      have p163 : 0 ≤ (x5_1 : Int) := of_decide_eq_true (by first | (with_reducible assumption) | assumption)
                      have q163 : x5_1 < (l1.length : Int) := of_decide_eq_true (by first | (with_reducible assumption) | assumption)
                      obtain ⟨ad163, e163, hx163_0, hx163_1⟩ := at_T89 HR1.out x5_1 p163 q163
                      cases e163
                      replace p163 := eq_true p163
                      replace q163 := eq_true q163
                      go_wp2_with (first | (go_at_call 129; (with_reducible refine (tocsinref04_side.calls ((rd_T89 l0 x5_1).f0) ((rd_T89 l1 x5_1).f0) t164 _ A9.out).mono ?_); rintro e w' ⟨rfl, ⟨nd, rfl⟩⟩; (try first | exact ⟨rfl, _, World.drewN_drewN _ _ _⟩ | exact ⟨rfl, _, Eq.trans (World.drewN_drewN _ _ _) (congrArg (World.drewN _) (Nat.add_assoc _ _ _))⟩); have p165 : 0 ≤ (x5_1 : Int) := of_decide_eq_true (by first | (with_reducible assumption) | assumption); have q165 : x5_1 < (l0.length : Int) := of_decide_eq_true (by first | (with_reducible assumption) | assumption); obtain ⟨ad165, e165, hx165_0, hx165_1⟩ := at_T89 HR0.out x5_1 p165 q165; obtain rfl : ad162 = ad165 := (by injection e165); replace p165 := eq_true p165; replace q165 := eq_true q165; have p166 : 0 ≤ (x5_1 : Int) := of_decide_eq_true (by first | (with_reducible assumption) | assumption); have q166 : x5_1 < (l1.length : Int) := of_decide_eq_true (by first | (with_reducible assumption) | assumption); obtain ⟨ad166, e166, hx166_0, hx166_1⟩ := at_T89 HR1.out x5_1 p166 q166; obtain rfl : ad163 = ad166 := (by injection e166); replace p166 := eq_true p166; replace q166 := eq_true q166) | (go_at_call 129; (with_reducible refine (tocsinref04_side.calls ((rd_T89 l0 x5_1).f1) ((rd_T89 l1 x5_1).f1) t167 _ A11.out).mono ?_); rintro e w' ⟨rfl, ⟨nd, rfl⟩⟩; (try first | exact ⟨rfl, _, World.drewN_drewN _ _ _⟩ | exact ⟨rfl, _, Eq.trans (World.drewN_drewN _ _ _) (congrArg (World.drewN _) (Nat.add_assoc _ _ _))⟩)))
                      repeat (go_quiet (first | (go_at_call 129; (with_reducible refine (tocsinref04_side.calls ((rd_T89 l0 x5_1).f0) ((rd_T89 l1 x5_1).f0) t164 _ A9.out).mono ?_); rintro e w' ⟨rfl, ⟨nd, rfl⟩⟩; (try first | exact ⟨rfl, _, World.drewN_drewN _ _ _⟩ | exact ⟨rfl, _, Eq.trans (World.drewN_drewN _ _ _) (congrArg (World.drewN _) (Nat.add_assoc _ _ _))⟩); have p165 : 0 ≤ (x5_1 : Int) := of_decide_eq_true (by first | (with_reducible assumption) | assumption); have q165 : x5_1 < (l0.length : Int) := of_decide_eq_true (by first | (with_reducible assumption) | assumption); obtain ⟨ad165, e165, hx165_0, hx165_1⟩ := at_T89 HR0.out x5_1 p165 q165; obtain rfl : ad162 = ad165 := (by injection e165); replace p165 := eq_true p165; replace q165 := eq_true q165; have p166 : 0 ≤ (x5_1 : Int) := of_decide_eq_true (by first | (with_reducible assumption) | assumption); have q166 : x5_1 < (l1.length : Int) := of_decide_eq_true (by first | (with_reducible assumption) | assumption); obtain ⟨ad166, e166, hx166_0, hx166_1⟩ := at_T89 HR1.out x5_1 p166 q166; obtain rfl : ad163 = ad166 := (by injection e166); replace p166 := eq_true p166; replace q166 := eq_true q166) | (go_at_call 129; (with_reducible refine (tocsinref04_side.calls ((rd_T89 l0 x5_1).f1) ((rd_T89 l1 x5_1).f1) t167 _ A11.out).mono ?_); rintro e w' ⟨rfl, ⟨nd, rfl⟩⟩; (try first | exact ⟨rfl, _, World.drewN_drewN _ _ _⟩ | exact ⟨rfl, _, Eq.trans (World.drewN_drewN _ _ _) (congrArg (World.drewN _) (Nat.add_assoc _ _ _))⟩))); try go_wp2_with (first | (go_at_call 129; (with_reducible refine (tocsinref04_side.calls ((rd_T89 l0 x5_1).f0) ((rd_T89 l1 x5_1).f0) t164 _ A9.out).mono ?_); rintro e w' ⟨rfl, ⟨nd, rfl⟩⟩; (try first | exact ⟨rfl, _, World.drewN_drewN _ _ _⟩ | exact ⟨rfl, _, Eq.trans (World.drewN_drewN _ _ _) (congrArg (World.drewN _) (Nat.add_assoc _ _ _))⟩); have p165 : 0 ≤ (x5_1 : Int) := of_decide_eq_true (by first | (with_reducible assumption) | assumption); have q165 : x5_1 < (l0.length : Int) := of_decide_eq_true (by first | (with_reducible assumption) | assumption); obtain ⟨ad165, e165, hx165_0, hx165_1⟩ := at_T89 HR0.out x5_1 p165 q165; obtain rfl : ad162 = ad165 := (by injection e165); replace p165 := eq_true p165; replace q165 := eq_true q165; have p166 : 0 ≤ (x5_1 : Int) := of_decide_eq_true (by first | (with_reducible assumption) | assumption); have q166 : x5_1 < (l1.length : Int) := of_decide_eq_true (by first | (with_reducible assumption) | assumption); obtain ⟨ad166, e166, hx166_0, hx166_1⟩ := at_T89 HR1.out x5_1 p166 q166; obtain rfl : ad163 = ad166 := (by injection e166); replace p166 := eq_true p166; replace q166 := eq_true q166) | (go_at_call 129; (with_reducible refine (tocsinref04_side.calls ((rd_T89 l0 x5_1).f1) ((rd_T89 l1 x5_1).f1) t167 _ A11.out).mono ?_); rintro e w' ⟨rfl, ⟨nd, rfl⟩⟩; (try first | exact ⟨rfl, _, World.drewN_drewN _ _ _⟩ | exact ⟨rfl, _, Eq.trans (World.drewN_drewN _ _ _) (congrArg (World.drewN _) (Nat.add_assoc _ _ _))⟩))))
                      go_roundg kj2
                      case measure => have := HK1.out; have := HJ2.out; omega
                      case rel => exact ⟨(wrap64 (x5_1 + 1)), (by first | rfl | (simp; done) | (simp [*]; done)), H', ⟨by have := HK1.out; have := HJ2.out; omega⟩, by repeat (first | exact Drawn0.refl _ | apply Drawn0.step)⟩
                    · rw [if_neg c12] at H
                      have c12b0 : (t167 == 0) = false := beq_eq_false_iff_ne.mpr c12
                      have c12b1 : (t167 != 0) = true := bne_iff_ne.mpr c12
                      obtain rfl := Option.some.inj H
                      have p162 : 0 ≤ (x5_1 : Int) := of_decide_eq_true (by first | (with_reducible assumption) | assumption)
                      have q162 : x5_1 < (l0.length : Int) := of_decide_eq_true (by first | (with_reducible assumption) | assumption)
                      obtain ⟨ad162, e162, hx162_0, hx162_1⟩ := at_T89 HR0.out x5_1 p162 q162
                      cases e162
                      replace p162 := eq_true p162
                      replace q162 := eq_true q162
                      have p163 : 0 ≤ (x5_1 : Int) := of_decide_eq_true (by first | (with_reducible assumption) | assumption)
                      have q163 : x5_1 < (l1.length : Int) := of_decide_eq_true (by first | (with_reducible assumption) | assumption)
                      obtain ⟨ad163, e163, hx163_0, hx163_1⟩ := at_T89 HR1.out x5_1 p163 q163
                      cases e163
                      replace p163 := eq_true p163
                      replace q163 := eq_true q163
                      go_wp2_with (first | (go_at_call 129; (with_reducible refine (tocsinref04_side.calls ((rd_T89 l0 x5_1).f0) ((rd_T89 l1 x5_1).f0) t164 _ A9.out).mono ?_); rintro e w' ⟨rfl, ⟨nd, rfl⟩⟩; (try first | exact ⟨rfl, _, World.drewN_drewN _ _ _⟩ | exact ⟨rfl, _, Eq.trans (World.drewN_drewN _ _ _) (congrArg (World.drewN _) (Nat.add_assoc _ _ _))⟩); have p165 : 0 ≤ (x5_1 : Int) := of_decide_eq_true (by first | (with_reducible assumption) | assumption); have q165 : x5_1 < (l0.length : Int) := of_decide_eq_true (by first | (with_reducible assumption) | assumption); obtain ⟨ad165, e165, hx165_0, hx165_1⟩ := at_T89 HR0.out x5_1 p165 q165; obtain rfl : ad162 = ad165 := (by injection e165); replace p165 := eq_true p165; replace q165 := eq_true q165; have p166 : 0 ≤ (x5_1 : Int) := of_decide_eq_true (by first | (with_reducible assumption) | assumption); have q166 : x5_1 < (l1.length : Int) := of_decide_eq_true (by first | (with_reducible assumption) | assumption); obtain ⟨ad166, e166, hx166_0, hx166_1⟩ := at_T89 HR1.out x5_1 p166 q166; obtain rfl : ad163 = ad166 := (by injection e166); replace p166 := eq_true p166; replace q166 := eq_true q166) | (go_at_call 129; (with_reducible refine (tocsinref04_side.calls ((rd_T89 l0 x5_1).f1) ((rd_T89 l1 x5_1).f1) t167 _ A11.out).mono ?_); rintro e w' ⟨rfl, ⟨nd, rfl⟩⟩; (try first | exact ⟨rfl, _, World.drewN_drewN _ _ _⟩ | exact ⟨rfl, _, Eq.trans (World.drewN_drewN _ _ _) (congrArg (World.drewN _) (Nat.add_assoc _ _ _))⟩)))
                      repeat (go_quiet (first | (go_at_call 129; (with_reducible refine (tocsinref04_side.calls ((rd_T89 l0 x5_1).f0) ((rd_T89 l1 x5_1).f0) t164 _ A9.out).mono ?_); rintro e w' ⟨rfl, ⟨nd, rfl⟩⟩; (try first | exact ⟨rfl, _, World.drewN_drewN _ _ _⟩ | exact ⟨rfl, _, Eq.trans (World.drewN_drewN _ _ _) (congrArg (World.drewN _) (Nat.add_assoc _ _ _))⟩); have p165 : 0 ≤ (x5_1 : Int) := of_decide_eq_true (by first | (with_reducible assumption) | assumption); have q165 : x5_1 < (l0.length : Int) := of_decide_eq_true (by first | (with_reducible assumption) | assumption); obtain ⟨ad165, e165, hx165_0, hx165_1⟩ := at_T89 HR0.out x5_1 p165 q165; obtain rfl : ad162 = ad165 := (by injection e165); replace p165 := eq_true p165; replace q165 := eq_true q165; have p166 : 0 ≤ (x5_1 : Int) := of_decide_eq_true (by first | (with_reducible assumption) | assumption); have q166 : x5_1 < (l1.length : Int) := of_decide_eq_true (by first | (with_reducible assumption) | assumption); obtain ⟨ad166, e166, hx166_0, hx166_1⟩ := at_T89 HR1.out x5_1 p166 q166; obtain rfl : ad163 = ad166 := (by injection e166); replace p166 := eq_true p166; replace q166 := eq_true q166) | (go_at_call 129; (with_reducible refine (tocsinref04_side.calls ((rd_T89 l0 x5_1).f1) ((rd_T89 l1 x5_1).f1) t167 _ A11.out).mono ?_); rintro e w' ⟨rfl, ⟨nd, rfl⟩⟩; (try first | exact ⟨rfl, _, World.drewN_drewN _ _ _⟩ | exact ⟨rfl, _, Eq.trans (World.drewN_drewN _ _ _) (congrArg (World.drewN _) (Nat.add_assoc _ _ _))⟩))); try go_wp2_with (first | (go_at_call 129; (with_reducible refine (tocsinref04_side.calls ((rd_T89 l0 x5_1).f0) ((rd_T89 l1 x5_1).f0) t164 _ A9.out).mono ?_); rintro e w' ⟨rfl, ⟨nd, rfl⟩⟩; (try first | exact ⟨rfl, _, World.drewN_drewN _ _ _⟩ | exact ⟨rfl, _, Eq.trans (World.drewN_drewN _ _ _) (congrArg (World.drewN _) (Nat.add_assoc _ _ _))⟩); have p165 : 0 ≤ (x5_1 : Int) := of_decide_eq_true (by first | (with_reducible assumption) | assumption); have q165 : x5_1 < (l0.length : Int) := of_decide_eq_true (by first | (with_reducible assumption) | assumption); obtain ⟨ad165, e165, hx165_0, hx165_1⟩ := at_T89 HR0.out x5_1 p165 q165; obtain rfl : ad162 = ad165 := (by injection e165); replace p165 := eq_true p165; replace q165 := eq_true q165; have p166 : 0 ≤ (x5_1 : Int) := of_decide_eq_true (by first | (with_reducible assumption) | assumption); have q166 : x5_1 < (l1.length : Int) := of_decide_eq_true (by first | (with_reducible assumption) | assumption); obtain ⟨ad166, e166, hx166_0, hx166_1⟩ := at_T89 HR1.out x5_1 p166 q166; obtain rfl : ad163 = ad166 := (by injection e166); replace p166 := eq_true p166; replace q166 := eq_true q166) | (go_at_call 129; (with_reducible refine (tocsinref04_side.calls ((rd_T89 l0 x5_1).f1) ((rd_T89 l1 x5_1).f1) t167 _ A11.out).mono ?_); rintro e w' ⟨rfl, ⟨nd, rfl⟩⟩; (try first | exact ⟨rfl, _, World.drewN_drewN _ _ _⟩ | exact ⟨rfl, _, Eq.trans (World.drewN_drewN _ _ _) (congrArg (World.drewN _) (Nat.add_assoc _ _ _))⟩))))
                      go_ret
                      exact ⟨by first | rfl | (simp; done) | (simp [*]; done), by repeat (first | exact Drawn0.refl _ | apply Drawn0.step)⟩
                  · rw [if_neg c10] at H
                    have c10b0 : (t164 == 0) = false := beq_eq_false_iff_ne.mpr c10
                    have c10b1 : (t164 != 0) = true := bne_iff_ne.mpr c10
                    obtain rfl := Option.some.inj H
                    have p162 : 0 ≤ (x5_1 : Int) := of_decide_eq_true (by first | (with_reducible assumption) | assumption)
                    have q162 : x5_1 < (l0.length : Int) := of_decide_eq_true (by first | (with_reducible assumption) | assumption)
                    obtain ⟨ad162, e162, hx162_0, hx162_1⟩ := at_T89 HR0.out x5_1 p162 q162
                    cases e162
                    replace p162 := eq_true p162
                    replace q162 := eq_true q162
                    have p163 : 0 ≤ (x5_1 : Int) := of_decide_eq_true (by first | (with_reducible assumption) | assumption)
                    have q163 : x5_1 < (l1.length : Int) := of_decide_eq_true (by first | (with_reducible assumption) | assumption)
                    obtain ⟨ad163, e163, hx163_0, hx163_1⟩ := at_T89 HR1.out x5_1 p163 q163
                    cases e163
                    replace p163 := eq_true p163
                    replace q163 := eq_true q163
                    go_wp2_with (first | (go_at_call 129; (with_reducible refine (tocsinref04_side.calls ((rd_T89 l0 x5_1).f0) ((rd_T89 l1 x5_1).f0) t164 _ A9.out).mono ?_); rintro e w' ⟨rfl, ⟨nd, rfl⟩⟩; (try first | exact ⟨rfl, _, World.drewN_drewN _ _ _⟩ | exact ⟨rfl, _, Eq.trans (World.drewN_drewN _ _ _) (congrArg (World.drewN _) (Nat.add_assoc _ _ _))⟩)))
                    repeat (go_quiet (first | (go_at_call 129; (with_reducible refine (tocsinref04_side.calls ((rd_T89 l0 x5_1).f0) ((rd_T89 l1 x5_1).f0) t164 _ A9.out).mono ?_); rintro e w' ⟨rfl, ⟨nd, rfl⟩⟩; (try first | exact ⟨rfl, _, World.drewN_drewN _ _ _⟩ | exact ⟨rfl, _, Eq.trans (World.drewN_drewN _ _ _) (congrArg (World.drewN _) (Nat.add_assoc _ _ _))⟩))); try go_wp2_with (first | (go_at_call 129; (with_reducible refine (tocsinref04_side.calls ((rd_T89 l0 x5_1).f0) ((rd_T89 l1 x5_1).f0) t164 _ A9.out).mono ?_); rintro e w' ⟨rfl, ⟨nd, rfl⟩⟩; (try first | exact ⟨rfl, _, World.drewN_drewN _ _ _⟩ | exact ⟨rfl, _, Eq.trans (World.drewN_drewN _ _ _) (congrArg (World.drewN _) (Nat.add_assoc _ _ _))⟩))))
                    go_ret
                    exact ⟨by first | rfl | (simp; done) | (simp [*]; done), by repeat (first | exact Drawn0.refl _ | apply Drawn0.step)⟩
                · rw [if_neg c8] at H
                  exact absurd H (by simp)
              · rw [if_neg c7] at H
                exact absurd H (by simp)
            · rw [if_neg c6] at H
              exact absurd H (by simp)
          · replace c5 := Bool.eq_false_iff.mpr c5
            subst c5
            have H1 : (if (l0.length : Int) < (l1.length : Int) then (some (-1)) else (if (l0.length : Int) > (l1.length : Int) then (some 1) else (some 0))) = some r := by rw [if_neg (show ¬ (false = true) by decide)] at H; exact H
            clear H
            have H := H1
            clear H1
            by_cases c13 : (l0.length : Int) < (l1.length : Int)
            · rw [if_pos c13] at H
              have c13b0 : decide ((l0.length : Int) < (l1.length : Int)) = true := decide_eq_true c13
              have c13b1 : decide (l0.length < l1.length) = true := decide_eq_true (Int.ofNat_lt.mp c13)
              clear c13
              obtain rfl := Option.some.inj H
              go_wp2
              repeat (go_quiet (fail); try go_wp2)
              go_ret
              exact ⟨by first | rfl | (simp; done) | (simp [*]; done), by repeat (first | exact Drawn0.refl _ | apply Drawn0.step)⟩
            · rw [if_neg c13] at H
              have c13b0 : decide ((l0.length : Int) < (l1.length : Int)) = false := decide_eq_false c13
              have c13b1 : decide (l0.length < l1.length) = false := decide_eq_false (fun h => c13 (Int.ofNat_lt.mpr h))
              clear c13
              by_cases c14 : (l0.length : Int) > (l1.length : Int)
              · rw [if_pos c14] at H
                have c14b0 : decide ((l1.length : Int) < (l0.length : Int)) = true := decide_eq_true c14
                have c14b1 : decide (l1.length < l0.length) = true := decide_eq_true (Int.ofNat_lt.mp c14)
                clear c14
                obtain rfl := Option.some.inj H
                go_wp2
                repeat (go_quiet (fail); try go_wp2)
                go_ret
                exact ⟨by first | rfl | (simp; done) | (simp [*]; done), by repeat (first | exact Drawn0.refl _ | apply Drawn0.step)⟩
              · rw [if_neg c14] at H
                have c14b0 : decide ((l1.length : Int) < (l0.length : Int)) = false := decide_eq_false c14
                have c14b1 : decide (l1.length < l0.length) = false := decide_eq_false (fun h => c14 (Int.ofNat_lt.mpr h))
                clear c14
                obtain rfl := Option.some.inj H
                go_wp2
                repeat (go_quiet (fail); try go_wp2)
                go_ret
                exact ⟨by first | rfl | (simp; done) | (simp [*]; done), by repeat (first | exact Drawn0.refl _ | apply Drawn0.step)⟩

end Go.Proofs.YtoncpeadbhgmaaaGreatDoor.G

set_option linter.unusedVariables false
set_option linter.unusedSimpArgs false
namespace Go.Proofs.YtoncpeadbhgmaaaGreatDoor.G
open Go.RowKit Go.Sort Go.Proofs.YtoncpeadbhgmaaaGreatDoorW.PrintWords

theorem bits_run (b : Nat) (w : World) : (callFunc 58 #[.float .f64 b]).run Tryz.prog w = .ok (.value (.int .u64 b)) w := by
  rw [run_callFunc_extern (fn := Tryz.f58) (e := Extern.MathFloatBits.float64bits) Tryz.func58 (by kernel_rfl) rfl (by kernel_rfl) (by kernel_rfl)]
  rfl
theorem frombits_run (n : Int) (w : World) : (callFunc 124 #[.int .u64 n]).run Tryz.prog w = .ok (.value (.float .f64 n.toNat)) w := by
  rw [run_callFunc_extern (fn := Tryz.f124) (e := Extern.MathFloatBits.float64frombits) Tryz.func124 (by kernel_rfl) rfl (by kernel_rfl) (by kernel_rfl)]
  rfl
attribute [go_sem] bits_run frombits_run
end Go.Proofs.YtoncpeadbhgmaaaGreatDoor.G

namespace Go.Proofs.YtoncpeadbhgmaaaGreatDoor.G
open Go.RowKit Go.Proofs.YtoncpeadbhgmaaaGreatDoorW.PrintWords Go.Proofs.YtoncpeadbhgmaaaGreatDoorW.PrintLast Go.Proofs.YtoncpeadbhgmaaaGreatDoorW.PrintMore
attribute [local go_sem] max2_int min2_int max_two min_two max_three min_three max_four min_four   -- for this text's walks alone
set_option linter.unusedVariables false
set_option linter.unusedSimpArgs false

def tocsinref04_Same.f (k : Nat) (l0 : List (S89)) (l1 : List (S89)) : Option (Bool) := (tocsinref04_Compare.f k l0 l1).bind fun t168 => (some (t168 == 0))
theorem tocsinref04_Same.mono : ∀ a0 a1 k, LeO (tocsinref04_Same.f k a0 a1) (tocsinref04_Same.f (k + 1) a0 a1) := by
  intro a0 a1 k
  unfold tocsinref04_Same.f
  repeat' first
      | (with_reducible exact tocsinref04_Compare.mono _ _ _)
      | (with_reducible exact LeO.refl _)
      | (with_reducible exact LeO.none _)
      | (with_reducible refine LeO.ite ?_ ?_)
      | (with_reducible refine LeO.bind ?_ (fun _ => ?_))
      | exact tocsinref04_Compare.mono _ _ _
      | exact LeO.none _
      | refine LeO.ite ?_ ?_
      | refine LeO.bind ?_ (fun _ => ?_)
set_option maxHeartbeats 8000000 in
set_option maxRecDepth 100000 in
theorem tocsinref04_Same.calls (k : Nat) (A0 : Option Addr) (c0 : Nat) (l0 : List (S89)) (A1 : Option Addr) (c1 : Nat) (l1 : List (S89)) (r : Bool) (w : World) (hr0 : Kd.C k89 w A0 l0.length l0) (hc0 : l0.length ≤ c0) (hr1 : Kd.C k89 w A1 l1.length l1) (hc1 : l1.length ≤ c1) (h : tocsinref04_Same.f k l0 l1 = some r) :
    Calls Tryz.prog 41 #[.slice A0 l0.length c0, .slice A1 l1.length c1] w fun e w' => e = .returned (.bool r) ∧ Drawn0 w w' := by
  have HR0 := Aside0.mk hr0
  have HC0 := Aside0.mk hc0
  clear hr0 hc0
  have HR1 := Aside0.mk hr1
  have HC1 := Aside0.mk hc1
  clear hr1 hc1
  have H : ((tocsinref04_Compare.f k l0 l1).bind fun t168 => (some (t168 == 0))) = some r := h
  clear h
  replace H := Option.bind_eq_some_iff.mp H
  obtain ⟨t168, A30, H⟩ := H
  replace H : (some (t168 == 0)) = some r := H
  have A3 := Aside0.mk A30
  clear A30
  obtain rfl := Option.some.inj H
  go_enter Tryz.func41, Tryz.ntmps41
  go_wp2_with (first | ((with_reducible refine gate_callee (f := 78) rfl ?_); refine goesL_ (some 7) rfl rfl Tryz.func78 (by kernel_rfl) rfl #[.slice A0 l0.length c0, .slice A1 l1.length c1] rfl (by (try simp only [List.map_toArray, List.map_cons, List.map_nil]); first | done | rfl | (simp only [List.length_drop, List.length_take]; rfl)) ?_; (with_reducible refine (tocsinref04_Compare.calls k _ _ l0 _ _ l1 t168 _ ?side1 ?side2 ?side3 ?side4 A3.out).mono ?_); (case side1 => repeat (first | exact HR0.out | (with_reducible refine Kd.C_alloc ?_ _) | (with_reducible refine Kd.C_drewN ?_ _) | (with_reducible refine Kd.C_drew ?_))); (case side2 => exact HC0.out); (case side3 => repeat (first | exact HR1.out | (with_reducible refine Kd.C_alloc ?_ _) | (with_reducible refine Kd.C_drewN ?_ _) | (with_reducible refine Kd.C_drew ?_))); (case side4 => exact HC1.out); rintro e w' ⟨rfl, ⟨nd, rfl⟩⟩; refine ⟨_, rfl, ?_⟩))
  go_ret
  exact ⟨by first | rfl | (simp; done) | (simp [*]; done), by repeat (first | exact Drawn0.refl _ | apply Drawn0.step)⟩

end Go.Proofs.YtoncpeadbhgmaaaGreatDoor.G

set_option linter.unusedVariables false
set_option linter.unusedSimpArgs false
namespace Go.Proofs.YtoncpeadbhgmaaaGreatDoor.G
open Go.RowKit Go.Sort Go.Proofs.YtoncpeadbhgmaaaGreatDoorW.PrintWords Go.Proofs.YtoncpeadbhgmaaaGreatDoorW.PrintLast Go.Proofs.YtoncpeadbhgmaaaGreatDoorW.PrintMore

def vint_PutText.f (k : Nat) (l0 : List Int) (a1 : ByteArray) : Option (List Int) := if a1.size ≤ 9223372036854775807 then (vint_PutU.f k l0 (a1.size : Int)).bind fun t => vint_joined.f t (bytesOf a1) else none
theorem vint_PutText.mono : ∀ a0 a1 k, LeO (vint_PutText.f k a0 a1) (vint_PutText.f (k + 1) a0 a1) := by
  intro a0 a1 k
  unfold vint_PutText.f
  refine LeO.ite ?_ ?_
  · exact LeO.bind (vint_PutU.mono _ _ _) (fun _ => LeO.refl _)
  · exact LeO.refl _
set_option maxHeartbeats 4000000 in
set_option maxRecDepth 100000 in
theorem vint_PutText.calls (k : Nat) (A0 : Option Addr) (c0 : Nat) (l0 : List Int) (a1 : ByteArray) (r : List Int) (w : World) (hr0 : Kd.C (Kd.int .u8) w A0 l0.length l0) (hc0 : l0.length ≤ c0) (h : vint_PutText.f k l0 a1 = some r) :
    Calls Tryz.prog 144 #[.slice A0 l0.length c0, .string a1] w fun e w' => ∃ v0_ : Value, e = .returned v0_ ∧ Kd.R (Kd.int .u8) 5 w' w.heap.size (fun _ => True) v0_ r ∧ Below w.heap.size w w' := by
  unfold vint_PutText.f at h
  split at h
  · rename_i hs
    obtain ⟨t, h1, h2⟩ := Option.bind_eq_some_iff.mp h
    clear h
    have hw : IntKind.u64.wrap (a1.size : Int) = a1.size := by simp [IntKind.wrap, IntKind.bits, IntKind.signed]; omega
    have c1 := vint_PutU.calls k A0 c0 l0 (a1.size : Int) t w hr0 hc0 h1
    have hcv := fun W => print_bytes (P := Tryz.prog) 9 109 5 Tryz.underlying9 Tryz.underlying109 Tryz.underlying5 a1 W
    clear hr0 hc0 h1
    have H2 := hid h2; clear h2
    go_enter Tryz.func144, Tryz.ntmps144
    go_wp2_with fail
    refine c1.mono ?_
    rintro e w1 ⟨v, rfl, ho, hb⟩
    obtain ⟨A1, d1, rfl, hd1, hr1⟩ := Kd.R_reads ho
    have HR1 := hid hr1
    have HB1 := hid hb
    have HD1 := hid hd1
    clear ho hb hr1 hd1
    go_wp2_with fail
    generalize hW : Lib.bytesWorld w1 5 a1 = W2
    have hB2 : Below w1.heap.size w1 W2 := hW ▸ bytes_below (Below.refl _ _) (Nat.le_refl _) 5 a1
    have hR2 : (Kd.int .u8).C W2 (some ⟨w1.heap.size, 0, none⟩) (bytesOf a1).length (bytesOf a1) := by
      have h := bytes_reads w1 5 a1 hs
      rw [hW] at h
      rw [bytesOf_length]
      exact Kd.C_of_reads (d := (0 : Int)) (h1 := fun _ => rfl) h
    have hcap : (bytesOf a1).length ≤ grownCap w1 a1.size 0 5 := by
      rw [bytesOf_length]; exact grownCap_ge _ _ _ _
    have c2 := vint_joined.calls A1 d1 t (some ⟨w1.heap.size, 0, none⟩) (grownCap w1 a1.size 0 5) (bytesOf a1) r W2 (Kd.C_below HR1.out hB2) HD1.out hR2 hcap H2.out
    rw [bytesOf_length] at c2
    have HB2 := hid (HB1.out.trans (hB2.mono HB1.out.size))
    have HS2 := hid hB2.size
    clear hR2 hcap hW hB2 hcv
    refine c2.mono ?_
    rintro e w3 ⟨v3, rfl, ho3, hb3⟩
    have HO3 := hid ho3
    have HB3 := hid hb3
    clear ho3 hb3
    go_wp2
    go_ret
    exact ⟨_, rfl, Kd.R_lower HO3.out HB2.out.size, HB2.out.trans (HB3.out.mono HB2.out.size)⟩
  · cases h
end Go.Proofs.YtoncpeadbhgmaaaGreatDoor.G

namespace Go.Proofs.YtoncpeadbhgmaaaGreatDoor.G
open Go.RowKit Go.Proofs.YtoncpeadbhgmaaaGreatDoorW.PrintWords Go.Proofs.YtoncpeadbhgmaaaGreatDoorW.PrintLast Go.Proofs.YtoncpeadbhgmaaaGreatDoorW.PrintMore
attribute [local go_sem] max2_int min2_int max_two min_two max_three min_three max_four min_four   -- for this text's walks alone
set_option linter.unusedVariables false
set_option linter.unusedSimpArgs false

def labels_Name.f (a0 : ByteArray) : Option (Bool) := (labels_named.f a0 64 false).bind fun t101 => (some t101)
set_option maxHeartbeats 8000000 in
set_option maxRecDepth 100000 in
theorem labels_Name.calls (a0 : ByteArray) (r : Bool) (w : World) (h : labels_Name.f a0 = some r) :
    Calls Tryz.prog 99 #[.string a0] w fun e w' => e = .returned (.bool r) ∧ Below w.heap.size w w' := by
  have HB := Aside0.mk (Below.refl w.heap.size w)
  have H : ((labels_named.f a0 64 false).bind fun t101 => (some t101)) = some r := h
  clear h
  replace H := Option.bind_eq_some_iff.mp H
  obtain ⟨t101, A20, H⟩ := H
  replace H : (some t101) = some r := H
  have A2 := Aside0.mk A20
  clear A20
  obtain rfl := Option.some.inj H
  go_enter Tryz.func99, Tryz.ntmps99
  go_wp2_with (first | ((with_reducible refine gate_callee (f := 150) rfl ?_); refine goesL_ (some 4) rfl rfl Tryz.func150 (by kernel_rfl) rfl #[.string a0, .int .i64 64, .bool false] rfl (by (try simp only [List.map_toArray, List.map_cons, List.map_nil]); first | done | rfl | (simp only [List.length_drop, List.length_take]; rfl)) ?_; (with_reducible refine (labels_named.calls a0 64 false t101 _ A2.out).mono ?_); rintro e w3 ⟨rfl, hb⟩; refine ⟨_, rfl, ?_⟩; have n0_ := Aside0.mk (below_step (by repeat (first | (with_reducible first | exact HB.out | apply below_alloc | apply pw_below_drewN | apply below_drew1) | exact HB.out)) hb); clear HB; have HB := n0_; clear n0_; (try clear hb); (try clear hb2); (try clear hk); (try clear hi)))
  go_ret
  exact ⟨by first | rfl | (simp [errW_none, errW_some] <;> rfl) | (simp [*, errW_none, errW_some] <;> rfl), by repeat (first | (with_reducible first | exact HB.out | apply below_alloc | apply pw_below_drewN | apply below_drew1) | exact HB.out)⟩

def utf8_word_string.f (a0 : ByteArray) : Option (Int) := if 0 < (a0.size : Int) then (if 1 < (a0.size : Int) then (if 2 < (a0.size : Int) then (if 3 < (a0.size : Int) then (if 4 < (a0.size : Int) then (if 5 < (a0.size : Int) then (if 6 < (a0.size : Int) then (if 7 < (a0.size : Int) then (some (Go.bits .or .u64 (Go.bits .or .u64 (Go.bits .or .u64 (Go.bits .or .u64 (Go.bits .or .u64 (Go.bits .or .u64 (Go.bits .or .u64 (IntKind.u64.wrap (bt a0 0)) (IntKind.u64.wrap ((IntKind.u64.wrap (bt a0 1)) * 256))) (IntKind.u64.wrap ((IntKind.u64.wrap (bt a0 2)) * 65536))) (IntKind.u64.wrap ((IntKind.u64.wrap (bt a0 3)) * 16777216))) (IntKind.u64.wrap ((IntKind.u64.wrap (bt a0 4)) * 4294967296))) (IntKind.u64.wrap ((IntKind.u64.wrap (bt a0 5)) * 1099511627776))) (IntKind.u64.wrap ((IntKind.u64.wrap (bt a0 6)) * 281474976710656))) (IntKind.u64.wrap ((IntKind.u64.wrap (bt a0 7)) * 72057594037927936)))) else (none)) else (none)) else (none)) else (none)) else (none)) else (none)) else (none)) else (none)
set_option maxHeartbeats 8000000 in
set_option maxRecDepth 100000 in
theorem utf8_word_string.calls (a0 : ByteArray) (r : Int) (w : World) (h : utf8_word_string.f a0 = some r) :
    Calls Tryz.prog 215 #[.string a0] w fun e w' => e = .returned (.int .u64 r) ∧ Drawn0 w w' := by
  have H : (if 0 < (a0.size : Int) then (if 1 < (a0.size : Int) then (if 2 < (a0.size : Int) then (if 3 < (a0.size : Int) then (if 4 < (a0.size : Int) then (if 5 < (a0.size : Int) then (if 6 < (a0.size : Int) then (if 7 < (a0.size : Int) then (some (Go.bits .or .u64 (Go.bits .or .u64 (Go.bits .or .u64 (Go.bits .or .u64 (Go.bits .or .u64 (Go.bits .or .u64 (Go.bits .or .u64 (IntKind.u64.wrap (bt a0 0)) (IntKind.u64.wrap ((IntKind.u64.wrap (bt a0 1)) * 256))) (IntKind.u64.wrap ((IntKind.u64.wrap (bt a0 2)) * 65536))) (IntKind.u64.wrap ((IntKind.u64.wrap (bt a0 3)) * 16777216))) (IntKind.u64.wrap ((IntKind.u64.wrap (bt a0 4)) * 4294967296))) (IntKind.u64.wrap ((IntKind.u64.wrap (bt a0 5)) * 1099511627776))) (IntKind.u64.wrap ((IntKind.u64.wrap (bt a0 6)) * 281474976710656))) (IntKind.u64.wrap ((IntKind.u64.wrap (bt a0 7)) * 72057594037927936)))) else (none)) else (none)) else (none)) else (none)) else (none)) else (none)) else (none)) else (none)) = some r := h
  clear h
  by_cases c2 : 0 < (a0.size : Int)
  · rw [if_pos c2] at H
    have c2b0 : decide (0 < (a0.size : Int)) = true := decide_eq_true c2
    have c2b1 : decide (0 < a0.size) = true := decide_eq_true (by omega)
    clear c2
    by_cases c4 : 1 < (a0.size : Int)
    · rw [if_pos c4] at H
      have c4b0 : decide (1 < (a0.size : Int)) = true := decide_eq_true c4
      have c4b1 : decide (1 < a0.size) = true := decide_eq_true (by omega)
      clear c4
      by_cases c6 : 2 < (a0.size : Int)
      · rw [if_pos c6] at H
        have c6b0 : decide (2 < (a0.size : Int)) = true := decide_eq_true c6
        have c6b1 : decide (2 < a0.size) = true := decide_eq_true (by omega)
        clear c6
        by_cases c8 : 3 < (a0.size : Int)
        · rw [if_pos c8] at H
          have c8b0 : decide (3 < (a0.size : Int)) = true := decide_eq_true c8
          have c8b1 : decide (3 < a0.size) = true := decide_eq_true (by omega)
          clear c8
          by_cases c10 : 4 < (a0.size : Int)
          · rw [if_pos c10] at H
            have c10b0 : decide (4 < (a0.size : Int)) = true := decide_eq_true c10
            have c10b1 : decide (4 < a0.size) = true := decide_eq_true (by omega)
            clear c10
            by_cases c12 : 5 < (a0.size : Int)
            · rw [if_pos c12] at H
              have c12b0 : decide (5 < (a0.size : Int)) = true := decide_eq_true c12
              have c12b1 : decide (5 < a0.size) = true := decide_eq_true (by omega)
              clear c12
              by_cases c14 : 6 < (a0.size : Int)
              · rw [if_pos c14] at H
                have c14b0 : decide (6 < (a0.size : Int)) = true := decide_eq_true c14
                have c14b1 : decide (6 < a0.size) = true := decide_eq_true (by omega)
                clear c14
                by_cases c16 : 7 < (a0.size : Int)
                · rw [if_pos c16] at H
                  have c16b0 : decide (7 < (a0.size : Int)) = true := decide_eq_true c16
                  have c16b1 : decide (7 < a0.size) = true := decide_eq_true (by omega)
                  clear c16
                  obtain rfl := Option.some.inj H
                  have p3 : 0 ≤ (0 : Int) := (by omega)
                  have q3 : 0 < a0.size := (by have : (0 : Int) < (a0.size : Int) := of_decide_eq_true (by first | (with_reducible assumption) | assumption); omega)
                  have hx3 : ∀ h : 0 < a0.size, ((a0[0]'h).toNat : Int) = bt a0 0 := bt_at a0 0
                  clear p3
                  have qi3 : (0 < (a0.size : Int)) = True := eq_true (of_decide_eq_true (by first | (with_reducible assumption) | assumption))
                  replace q3 := eq_true q3
                  have p5 : 0 ≤ (1 : Int) := (by omega)
                  have q5 : 1 < a0.size := (by have : (1 : Int) < (a0.size : Int) := of_decide_eq_true (by first | (with_reducible assumption) | assumption); omega)
                  have hx5 : ∀ h : 1 < a0.size, ((a0[1]'h).toNat : Int) = bt a0 1 := bt_at a0 1
                  clear p5
                  have qi5 : (1 < (a0.size : Int)) = True := eq_true (of_decide_eq_true (by first | (with_reducible assumption) | assumption))
                  replace q5 := eq_true q5
                  have p7 : 0 ≤ (2 : Int) := (by omega)
                  have q7 : 2 < a0.size := (by have : (2 : Int) < (a0.size : Int) := of_decide_eq_true (by first | (with_reducible assumption) | assumption); omega)
                  have hx7 : ∀ h : 2 < a0.size, ((a0[2]'h).toNat : Int) = bt a0 2 := bt_at a0 2
                  clear p7
                  have qi7 : (2 < (a0.size : Int)) = True := eq_true (of_decide_eq_true (by first | (with_reducible assumption) | assumption))
                  replace q7 := eq_true q7
                  have p9 : 0 ≤ (3 : Int) := (by omega)
                  have q9 : 3 < a0.size := (by have : (3 : Int) < (a0.size : Int) := of_decide_eq_true (by first | (with_reducible assumption) | assumption); omega)
                  have hx9 : ∀ h : 3 < a0.size, ((a0[3]'h).toNat : Int) = bt a0 3 := bt_at a0 3
                  clear p9
                  have qi9 : (3 < (a0.size : Int)) = True := eq_true (of_decide_eq_true (by first | (with_reducible assumption) | assumption))
                  replace q9 := eq_true q9
                  have p11 : 0 ≤ (4 : Int) := (by omega)
                  have q11 : 4 < a0.size := (by have : (4 : Int) < (a0.size : Int) := of_decide_eq_true (by first | (with_reducible assumption) | assumption); omega)
                  have hx11 : ∀ h : 4 < a0.size, ((a0[4]'h).toNat : Int) = bt a0 4 := bt_at a0 4
                  clear p11
                  have qi11 : (4 < (a0.size : Int)) = True := eq_true (of_decide_eq_true (by first | (with_reducible assumption) | assumption))
                  replace q11 := eq_true q11
                  have p13 : 0 ≤ (5 : Int) := (by omega)
                  have q13 : 5 < a0.size := (by have : (5 : Int) < (a0.size : Int) := of_decide_eq_true (by first | (with_reducible assumption) | assumption); omega)
                  have hx13 : ∀ h : 5 < a0.size, ((a0[5]'h).toNat : Int) = bt a0 5 := bt_at a0 5
                  clear p13
                  have qi13 : (5 < (a0.size : Int)) = True := eq_true (of_decide_eq_true (by first | (with_reducible assumption) | assumption))
                  replace q13 := eq_true q13
                  have p15 : 0 ≤ (6 : Int) := (by omega)
                  have q15 : 6 < a0.size := (by have : (6 : Int) < (a0.size : Int) := of_decide_eq_true (by first | (with_reducible assumption) | assumption); omega)
                  have hx15 : ∀ h : 6 < a0.size, ((a0[6]'h).toNat : Int) = bt a0 6 := bt_at a0 6
                  clear p15
                  have qi15 : (6 < (a0.size : Int)) = True := eq_true (of_decide_eq_true (by first | (with_reducible assumption) | assumption))
                  replace q15 := eq_true q15
                  have p17 : 0 ≤ (7 : Int) := (by omega)
                  have q17 : 7 < a0.size := (by have : (7 : Int) < (a0.size : Int) := of_decide_eq_true (by first | (with_reducible assumption) | assumption); omega)
                  have hx17 : ∀ h : 7 < a0.size, ((a0[7]'h).toNat : Int) = bt a0 7 := bt_at a0 7
                  clear p17
                  have qi17 : (7 < (a0.size : Int)) = True := eq_true (of_decide_eq_true (by first | (with_reducible assumption) | assumption))
                  replace q17 := eq_true q17
                  go_enter Tryz.func215, Tryz.ntmps215
                  go_wp2
                  repeat (go_quiet (fail); try go_wp2)
                  go_ret
                  exact ⟨by first | rfl | (simp; done) | (simp [*]; done), by repeat (first | exact Drawn0.refl _ | apply Drawn0.step)⟩
                · rw [if_neg c16] at H
                  exact absurd H (by simp)
              · rw [if_neg c14] at H
                exact absurd H (by simp)
            · rw [if_neg c12] at H
              exact absurd H (by simp)
          · rw [if_neg c10] at H
            exact absurd H (by simp)
        · rw [if_neg c8] at H
          exact absurd H (by simp)
      · rw [if_neg c6] at H
        exact absurd H (by simp)
    · rw [if_neg c4] at H
      exact absurd H (by simp)
  · rw [if_neg c2] at H
    exact absurd H (by simp)

def labels_value.f (a0 : ByteArray) : Option (Int) := if a0.toList = ([] : List UInt8) then (some 41) else (if (a0.size : Int) > 256 then (some 4) else ((utf8_ValidString.f a0).bind fun t102 => (if t102 = true then (some 0) else (some 12))))
set_option maxHeartbeats 8000000 in
set_option maxRecDepth 100000 in
theorem labels_value.calls (a0 : ByteArray) (r : Int) (w : World) (hT : Tabs w) (h : labels_value.f a0 = some r) :
    Calls Tryz.prog 125 #[.string a0] w fun e w' => e = .returned (.int .i64 r) ∧ Below w.heap.size w w' := by
  have HT := Aside0.mk hT
  clear hT
  have HB := Aside0.mk (Below.refl w.heap.size w)
  have H : (if a0.toList = ([] : List UInt8) then (some 41) else (if (a0.size : Int) > 256 then (some 4) else ((utf8_ValidString.f a0).bind fun t102 => (if t102 = true then (some 0) else (some 12))))) = some r := h
  clear h
  by_cases c2 : a0.toList = ([] : List UInt8)
  · rw [if_pos c2] at H
    have c2b0 : (a0.toList == ([] : List UInt8)) = true := beq_iff_eq.mpr c2
    have c2b1 : (a0.toList != ([] : List UInt8)) = false := bne_eq_false_iff_eq.mpr c2
    clear c2
    obtain rfl := Option.some.inj H
    go_enter Tryz.func125, Tryz.ntmps125
    go_wp2
    go_ret
    exact ⟨by first | rfl | (simp [errW_none, errW_some] <;> rfl) | (simp [*, errW_none, errW_some] <;> rfl), by repeat (first | (with_reducible first | exact HB.out | apply below_alloc | apply pw_below_drewN | apply below_drew1) | exact HB.out)⟩
  · rw [if_neg c2] at H
    have c2b0 : (a0.toList == ([] : List UInt8)) = false := beq_eq_false_iff_ne.mpr c2
    have c2b1 : (a0.toList != ([] : List UInt8)) = true := bne_iff_ne.mpr c2
    by_cases c3 : (a0.size : Int) > 256
    · rw [if_pos c3] at H
      have c3b0 : decide (256 < (a0.size : Int)) = true := decide_eq_true c3
      have c3b1 : decide (256 < a0.size) = true := decide_eq_true (by omega)
      clear c3
      obtain rfl := Option.some.inj H
      go_enter Tryz.func125, Tryz.ntmps125
      go_wp2
      go_ret
      exact ⟨by first | rfl | (simp [errW_none, errW_some] <;> rfl) | (simp [*, errW_none, errW_some] <;> rfl), by repeat (first | (with_reducible first | exact HB.out | apply below_alloc | apply pw_below_drewN | apply below_drew1) | exact HB.out)⟩
    · rw [if_neg c3] at H
      have c3b0 : decide (256 < (a0.size : Int)) = false := decide_eq_false c3
      have c3b1 : decide (256 < a0.size) = false := decide_eq_false (by omega)
      clear c3
      replace H := Option.bind_eq_some_iff.mp H
      obtain ⟨t102, A40, H⟩ := H
      replace H : (if t102 = true then (some 0) else (some 12)) = some r := H
      have A4 := Aside0.mk A40
      clear A40
      by_cases c5 : t102 = true
      · subst c5
        have H1 : (some 0) = some r := by rw [if_pos rfl] at H; exact H
        clear H
        have H := H1
        clear H1
        obtain rfl := Option.some.inj H
        go_enter Tryz.func125, Tryz.ntmps125
        go_wp2_with (first | ((with_reducible refine gate_callee (f := 175) rfl ?_); refine goesL_ (some 12) rfl rfl Tryz.func175 (by kernel_rfl) rfl #[.string a0] rfl (by (try simp only [List.map_toArray, List.map_cons, List.map_nil]); first | done | rfl | (simp only [List.length_drop, List.length_take]; rfl)) ?_; (with_reducible refine (utf8_ValidString.calls a0 true _ ?side1 A4.out).mono ?_); (case side1 => first | exact HT.out | exact tabs_below HT.out (by repeat (first | (with_reducible first | exact HB.out | apply below_alloc | apply pw_below_drewN | apply below_drew1) | exact HB.out))); rintro e w6 ⟨rfl, hb⟩; refine ⟨_, rfl, ?_⟩; have n0_ := Aside0.mk (below_step (by repeat (first | (with_reducible first | exact HB.out | apply below_alloc | apply pw_below_drewN | apply below_drew1) | exact HB.out)) hb); clear HB; have HB := n0_; clear n0_; (try clear hb); (try clear hb2); (try clear hk); (try clear hi)))
        go_ret
        exact ⟨by first | rfl | (simp [errW_none, errW_some] <;> rfl) | (simp [*, errW_none, errW_some] <;> rfl), by repeat (first | (with_reducible first | exact HB.out | apply below_alloc | apply pw_below_drewN | apply below_drew1) | exact HB.out)⟩
      · replace c5 := Bool.eq_false_iff.mpr c5
        subst c5
        have H1 : (some 12) = some r := by rw [if_neg (show ¬ (false = true) by decide)] at H; exact H
        clear H
        have H := H1
        clear H1
        obtain rfl := Option.some.inj H
        go_enter Tryz.func125, Tryz.ntmps125
        go_wp2_with (first | ((with_reducible refine gate_callee (f := 175) rfl ?_); refine goesL_ (some 12) rfl rfl Tryz.func175 (by kernel_rfl) rfl #[.string a0] rfl (by (try simp only [List.map_toArray, List.map_cons, List.map_nil]); first | done | rfl | (simp only [List.length_drop, List.length_take]; rfl)) ?_; (with_reducible refine (utf8_ValidString.calls a0 false _ ?side1 A4.out).mono ?_); (case side1 => first | exact HT.out | exact tabs_below HT.out (by repeat (first | (with_reducible first | exact HB.out | apply below_alloc | apply pw_below_drewN | apply below_drew1) | exact HB.out))); rintro e w7 ⟨rfl, hb⟩; refine ⟨_, rfl, ?_⟩; have n0_ := Aside0.mk (below_step (by repeat (first | (with_reducible first | exact HB.out | apply below_alloc | apply pw_below_drewN | apply below_drew1) | exact HB.out)) hb); clear HB; have HB := n0_; clear n0_; (try clear hb); (try clear hb2); (try clear hk); (try clear hi)))
        go_ret
        exact ⟨by first | rfl | (simp [errW_none, errW_some] <;> rfl) | (simp [*, errW_none, errW_some] <;> rfl), by repeat (first | (with_reducible first | exact HB.out | apply below_alloc | apply pw_below_drewN | apply below_drew1) | exact HB.out)⟩

end Go.Proofs.YtoncpeadbhgmaaaGreatDoor.G

namespace Go.Proofs.YtoncpeadbhgmaaaGreatDoor.G
open Go.RowKit Go.Proofs.YtoncpeadbhgmaaaGreatDoorW.PrintWords Go.Proofs.YtoncpeadbhgmaaaGreatDoorW.PrintLast Go.Proofs.YtoncpeadbhgmaaaGreatDoorW.PrintMore
attribute [local go_sem] max2_int min2_int max_two min_two max_three min_three max_four min_four   -- for this text's walks alone
set_option linter.unusedVariables false
set_option linter.unusedSimpArgs false

def labels_Right.l0 : Nat → List (S89) → List (S89) → Int → Int → Option (Int × Int)
  | 0, _, _, _, _ => none
  | k + 1, x0, x10, x11, x12 => if x12 < x11 then (if 0 ≤ x12 then (if x12 < (x10.length : Int) then ((labels_Name.f ((rd_T89 x10 x12).f0)).bind fun t105 => (if t105 = true then ((labels_value.f ((rd_T89 x10 x12).f1)).bind fun t106 => (if t106 = 0 then (if x12 > 0 then (if 0 ≤ (wrap64 (x12 - 1)) then (if (wrap64 (x12 - 1)) < (x0.length : Int) then (if ((Op.bytesLess (((rd_T89 x0 (wrap64 (x12 - 1))).f0).toList) (((rd_T89 x10 x12).f0).toList)) = true) then (labels_Right.l0 k x0 x10 x11 (wrap64 (x12 + 1))) else (some (3, x12))) else (none)) else (none)) else (labels_Right.l0 k x0 x10 x11 (wrap64 (x12 + 1)))) else (some (t106, x12)))) else (some (40, x12)))) else (none)) else (none)) else (some (0, 0))
def labels_Right.f (k : Nat) (l0 : List (S89)) : Option (Int × Int) := if (l0.length : Int) > 16 then (some (8, 0)) else (labels_Right.l0 k l0 l0 (l0.length : Int) 0)
theorem labels_Right.mono_l : ∀ k, (∀ y0 y1 y2 y3, LeO (labels_Right.l0 k y0 y1 y2 y3) (labels_Right.l0 (k + 1) y0 y1 y2 y3))
  | 0 => fun _ _ _ _ r h => by simp [labels_Right.l0] at h
  | k + 1 => by
    have ih0 := labels_Right.mono_l k
    · intro y0 y1 y2 y3
      unfold labels_Right.l0
      repeat' first
      | (with_reducible exact ih0 _ _ _ _)
      | (with_reducible exact LeO.refl _)
      | (with_reducible exact LeO.none _)
      | (with_reducible refine LeO.ite ?_ ?_)
      | (with_reducible refine LeO.bind ?_ (fun _ => ?_))
      | exact ih0 _ _ _ _
      | exact LeO.none _
      | refine LeO.ite ?_ ?_
      | refine LeO.bind ?_ (fun _ => ?_)
theorem labels_Right.mono : ∀ a0 k, LeO (labels_Right.f k a0) (labels_Right.f (k + 1) a0) := by
  intro a0 k
  have ih0 := labels_Right.mono_l k
  unfold labels_Right.f
  repeat' first
      | (with_reducible exact ih0 _ _ _ _)
      | (with_reducible exact LeO.refl _)
      | (with_reducible exact LeO.none _)
      | (with_reducible refine LeO.ite ?_ ?_)
      | (with_reducible refine LeO.bind ?_ (fun _ => ?_))
      | exact ih0 _ _ _ _
      | exact LeO.none _
      | refine LeO.ite ?_ ?_
      | refine LeO.bind ?_ (fun _ => ?_)
set_option maxHeartbeats 8000000 in
set_option maxRecDepth 100000 in
theorem labels_Right.calls (k : Nat) (A0 : Option Addr) (c0 : Nat) (l0 : List (S89)) (r1 : Int) (r2 : Int) (w : World) (hr0 : Kd.C k89 w A0 l0.length l0) (hc0 : l0.length ≤ c0) (hT : Tabs w) (h : labels_Right.f k l0 = some (r1, r2)) :
    Calls Tryz.prog 73 #[.slice A0 l0.length c0] w fun e w' => e = .returned (.tuple #[.int .i64 r1, .int .i64 r2]) ∧ Below w.heap.size w w' := by
  have hu89 := Tryz.underlying89
  have HR0 := Aside0.mk hr0
  have HC0 := Aside0.mk hc0
  clear hr0 hc0
  have HT := Aside0.mk hT
  clear hT
  have HB := Aside0.mk (Below.refl w.heap.size w)
  have H : (if (l0.length : Int) > 16 then (some (8, 0)) else (labels_Right.l0 k l0 l0 (l0.length : Int) 0)) = some (r1, r2) := h
  clear h
  by_cases c2 : (l0.length : Int) > 16
  · rw [if_pos c2] at H
    have c2b0 : decide (16 < (l0.length : Int)) = true := decide_eq_true c2
    have c2b1 : decide (16 < l0.length) = true := decide_eq_true (by omega)
    clear c2
    simp only [Option.some.injEq, Prod.mk.injEq] at H
    obtain ⟨rfl, rfl⟩ := H
    go_enter Tryz.func73, Tryz.ntmps73
    go_wp2
    repeat (go_quiet (fail); try go_wp2)
    go_ret2
    exact ⟨by first | rfl | (simp [errW_none, errW_some] <;> rfl) | (simp [*, errW_none, errW_some] <;> rfl), by repeat (first | (with_reducible first | exact HB.out | apply below_alloc | apply pw_below_drewN | apply below_drew1) | exact HB.out)⟩
  · rw [if_neg c2] at H
    have c2b0 : decide (16 < (l0.length : Int)) = false := decide_eq_false c2
    have c2b1 : decide (16 < l0.length) = false := decide_eq_false (by omega)
    clear c2
    have H' := Aside0.mk H
    clear H
    go_enter Tryz.func73, Tryz.ntmps73
    go_wp2
    repeat (go_quiet (fail); try go_wp2)
    go_loopg [12] k (fun kq v12 w' => ∃ (x12_1 : Int), v12 = .int .i64 x12_1 ∧ Aside0 (labels_Right.l0 kq l0 l0 (l0.length : Int) x12_1 = some (r1, r2)) ∧ Aside0 (kq ≤ k) ∧ Aside0 (Below w.heap.size w w'))
    case atStart => exact ⟨(0), (by first | rfl | (simp; done) | (simp [*]; done)), H', ⟨Nat.le_refl _⟩, ⟨by repeat (first | (with_reducible first | exact HB.out | apply below_alloc | apply pw_below_drewN | apply below_drew1) | exact HB.out)⟩⟩
    case round =>
      clear H'
      try clear c2
      try clear c2b0
      try clear c2b1
      try clear p2
      obtain ⟨x12_1, rfl, HA, HK1, HB⟩ := hrel
      cases gk with
      | zero => exact absurd HA.out (by simp [labels_Right.l0])
      | succ k1 =>
        have H := HA.out
        clear HA
        simp only [labels_Right.l0] at H
        by_cases c3 : x12_1 < (l0.length : Int)
        · rw [if_pos c3] at H
          have c3b0 : decide (x12_1 < (l0.length : Int)) = true := decide_eq_true c3
          clear c3
          by_cases c4 : 0 ≤ x12_1
          · rw [if_pos c4] at H
            have c4b0 : decide (0 ≤ x12_1) = true := decide_eq_true c4
            clear c4
            by_cases c5 : x12_1 < (l0.length : Int)
            · rw [if_pos c5] at H
              have c5b0 : decide (x12_1 < (l0.length : Int)) = true := decide_eq_true c5
              clear c5
              replace H := Option.bind_eq_some_iff.mp H
              obtain ⟨t105, A60, H⟩ := H
              replace H : (if t105 = true then ((labels_value.f ((rd_T89 l0 x12_1).f1)).bind fun t106 => (if t106 = 0 then (if x12_1 > 0 then (if 0 ≤ (wrap64 (x12_1 - 1)) then (if (wrap64 (x12_1 - 1)) < (l0.length : Int) then (if ((Op.bytesLess (((rd_T89 l0 (wrap64 (x12_1 - 1))).f0).toList) (((rd_T89 l0 x12_1).f0).toList)) = true) then (labels_Right.l0 k1 l0 l0 (l0.length : Int) (wrap64 (x12_1 + 1))) else (some (3, x12_1))) else (none)) else (none)) else (labels_Right.l0 k1 l0 l0 (l0.length : Int) (wrap64 (x12_1 + 1)))) else (some (t106, x12_1)))) else (some (40, x12_1))) = some (r1, r2) := H
              have A6 := Aside0.mk A60
              clear A60
              by_cases c7 : t105 = true
              · subst c7
                have H1 : ((labels_value.f ((rd_T89 l0 x12_1).f1)).bind fun t106 => (if t106 = 0 then (if x12_1 > 0 then (if 0 ≤ (wrap64 (x12_1 - 1)) then (if (wrap64 (x12_1 - 1)) < (l0.length : Int) then (if ((Op.bytesLess (((rd_T89 l0 (wrap64 (x12_1 - 1))).f0).toList) (((rd_T89 l0 x12_1).f0).toList)) = true) then (labels_Right.l0 k1 l0 l0 (l0.length : Int) (wrap64 (x12_1 + 1))) else (some (3, x12_1))) else (none)) else (none)) else (labels_Right.l0 k1 l0 l0 (l0.length : Int) (wrap64 (x12_1 + 1)))) else (some (t106, x12_1)))) = some (r1, r2) := by rw [if_pos rfl] at H; exact H
                clear H
                have H := H1
                clear H1
                replace H := Option.bind_eq_some_iff.mp H
                obtain ⟨t106, A80, H⟩ := H
                replace H : (if t106 = 0 then (if x12_1 > 0 then (if 0 ≤ (wrap64 (x12_1 - 1)) then (if (wrap64 (x12_1 - 1)) < (l0.length : Int) then (if ((Op.bytesLess (((rd_T89 l0 (wrap64 (x12_1 - 1))).f0).toList) (((rd_T89 l0 x12_1).f0).toList)) = true) then (labels_Right.l0 k1 l0 l0 (l0.length : Int) (wrap64 (x12_1 + 1))) else (some (3, x12_1))) else (none)) else (none)) else (labels_Right.l0 k1 l0 l0 (l0.length : Int) (wrap64 (x12_1 + 1)))) else (some (t106, x12_1))) = some (r1, r2) := H
                have A8 := Aside0.mk A80
                clear A80
                by_cases c9 : t106 = 0
                · rw [if_pos c9] at H
                  have c9b0 : (t106 == 0) = true := beq_iff_eq.mpr c9
                  have c9b1 : (t106 != 0) = false := bne_eq_false_iff_eq.mpr c9
                  clear c9
                  by_cases c10 : x12_1 > 0
                  · rw [if_pos c10] at H
                    have c10b0 : decide (0 < x12_1) = true := decide_eq_true c10
                    clear c10
                    obtain ⟨ji11, hji11⟩ : ∃ j_ : Int, (wrap64 (x12_1 - 1)) = j_ := ⟨_, rfl⟩
                    replace H : (if 0 ≤ (ji11) then (if (ji11) < (l0.length : Int) then (if ((Op.bytesLess (((rd_T89 l0 (ji11)).f0).toList) (((rd_T89 l0 x12_1).f0).toList)) = true) then (labels_Right.l0 k1 l0 l0 (l0.length : Int) (wrap64 (x12_1 + 1))) else (some (3, x12_1))) else (none)) else (none)) = some (r1, r2) := by first | (rw [hji11] at H; exact H) | (simp only [hji11] at H ⊢; exact H)
                    (try rw [hji11] at A6)
                    (try rw [hji11] at A8)
                    have hji11w : (IntKind.i64.wrap (x12_1 - 1)) = ji11 := (i64_w _).trans hji11
                    by_cases c12 : 0 ≤ (ji11)
                    · rw [if_pos c12] at H
                      have c12b0 : decide (0 ≤ (ji11)) = true := decide_eq_true c12
                      clear c12
                      by_cases c13 : (ji11) < (l0.length : Int)
                      · rw [if_pos c13] at H
                        have c13b0 : decide ((ji11) < (l0.length : Int)) = true := decide_eq_true c13
                        clear c13
                        by_cases c14 : ((Op.bytesLess (((rd_T89 l0 (ji11)).f0).toList) (((rd_T89 l0 x12_1).f0).toList)) = true)
                        · rw [if_pos c14] at H
                          have c14b0 : (Op.bytesLess (((rd_T89 l0 (ji11)).f0).toList) (((rd_T89 l0 x12_1).f0).toList)) = true := c14
                          clear c14
                          have H' := Aside0.mk H
                          clear H
                          have p103 : 0 ≤ (x12_1 : Int) := of_decide_eq_true (by first | (with_reducible assumption) | assumption)
                          have q103 : x12_1 < (l0.length : Int) := of_decide_eq_true (by first | (with_reducible assumption) | assumption)
                          obtain ⟨ad103, e103, hx103_0, hx103_1⟩ := at_T89 HR0.out x12_1 p103 q103
                          cases e103
                          replace hx103_0 := (HB.out.cell (World.block_lt_of_cell? w _ hx103_0)).trans hx103_0
                          replace hx103_1 := (HB.out.cell (World.block_lt_of_cell? w _ hx103_1)).trans hx103_1
                          replace p103 := eq_true p103
                          replace q103 := eq_true q103
                          go_wp2_with (first | ((with_reducible refine gate_dst (N := 5) rfl ?_); refine box_event ?hg (N := 5) ?hd (cs := #[.string (⟨#[]⟩ : ByteArray), .string (⟨#[]⟩ : ByteArray)]) (t := 89) ?hr ?_; (case hd => rfl); (case hg => rfl); (case hr => first | (go_simp; done) | (go_simp; rfl)); intro gb104 hg w15 hbox hb; have n0_ := Aside0.mk (below_step (by repeat (first | (with_reducible first | exact HB.out | apply below_alloc | apply pw_below_drewN | apply below_drew1) | exact HB.out)) hb); have n1_ := Aside0.mk (hbox); have n2_ := Aside0.mk ((by rw [hg]; exact (below_size (by repeat (first | (with_reducible first | exact HB.out | apply below_alloc | apply pw_below_drewN | apply below_drew1) | exact HB.out))) : w.heap.size ≤ gb104)); have n3_ := Aside0.mk ((by rw [hg]; exact (below_size (by repeat (first | (with_reducible first | exact HB.out | apply below_alloc | apply pw_below_drewN | apply below_drew1) | exact HB.out))) : w.heap.size ≤ gb104)); clear HB; have HB := n0_; have BK104 := n1_; have GW104 := n2_; have GE104 := n3_; clear n0_ n1_ n2_ n3_; clear hb hbox hg; have hcz16_0 : w15.cell? ⟨gb104, 0, none⟩ = some (.string (⟨#[]⟩ : ByteArray)) := (blk_cell BK104.out 0).trans rfl; have hcz16_1 : w15.cell? ⟨gb104, 1, none⟩ = some (.string (⟨#[]⟩ : ByteArray)) := (blk_cell BK104.out 1).trans rfl; have hfz16_0 := blk_frozen BK104.out 0; have hfz16_1 := blk_frozen BK104.out 1) | (go_at_call 99; (with_reducible refine (labels_Name.calls ((rd_T89 l0 x12_1).f0) true _ A6.out).mono ?_); rintro e w17 ⟨rfl, hb⟩; have n0_ := Aside0.mk (blk_below (g := gb104) (o := .cells #[.string ((rd_T89 l0 x12_1).f0), .string ((rd_T89 l0 x12_1).f1)] 89 (0, 0)) (by (with_reducible repeat (first | refine blk_drewN ?_ _ | refine blk_drew ?_ | refine blk_alloc ?_ _)); refine blk_put (cs := #[.string ((rd_T89 l0 x12_1).f0), .string (⟨#[]⟩ : ByteArray)]) ?_ 1 _ rfl; (with_reducible repeat (first | refine blk_drewN ?_ _ | refine blk_drew ?_ | refine blk_alloc ?_ _)); refine blk_put (cs := #[.string (⟨#[]⟩ : ByteArray), .string (⟨#[]⟩ : ByteArray)]) ?_ 0 _ rfl; (with_reducible repeat (first | refine blk_drewN ?_ _ | refine blk_drew ?_ | refine blk_alloc ?_ _)); exact BK104.out) hb); have n1_ := Aside0.mk (below_step (by repeat (first | (with_reducible first | exact HB.out | apply below_alloc | apply pw_below_drewN | apply below_drew1 | refine below_set ?_ GE104.out) | exact HB.out)) hb); clear BK104; clear HB; have BK104 := n0_; have HB := n1_; clear n0_ n1_; (try clear hb); (try clear hb2); (try clear hk); (try clear hi); have hcz18_0 : w17.cell? ⟨gb104, 0, none⟩ = some (.string ((rd_T89 l0 x12_1).f0)) := (blk_cell BK104.out 0).trans rfl; have hcz18_1 : w17.cell? ⟨gb104, 1, none⟩ = some (.string ((rd_T89 l0 x12_1).f1)) := (blk_cell BK104.out 1).trans rfl; have hfz18_0 := blk_frozen BK104.out 0; have hfz18_1 := blk_frozen BK104.out 1) | (go_at_call 125; (with_reducible refine (labels_value.calls ((rd_T89 l0 x12_1).f1) t106 _ ?side1 A8.out).mono ?_); (case side1 => first | exact HT.out | exact tabs_below HT.out (by repeat (first | (with_reducible first | exact HB.out | apply below_alloc | apply pw_below_drewN | apply below_drew1 | refine below_set ?_ GE104.out) | exact HB.out))); rintro e w19 ⟨rfl, hb⟩; have n0_ := Aside0.mk (blk_below (g := gb104) (o := .cells #[.string ((rd_T89 l0 x12_1).f0), .string ((rd_T89 l0 x12_1).f1)] 89 (0, 0)) (by (with_reducible repeat (first | refine blk_drewN ?_ _ | refine blk_drew ?_ | refine blk_alloc ?_ _)); exact BK104.out) hb); have n1_ := Aside0.mk (below_step (by repeat (first | (with_reducible first | exact HB.out | apply below_alloc | apply pw_below_drewN | apply below_drew1 | refine below_set ?_ GE104.out) | exact HB.out)) hb); clear BK104; clear HB; have BK104 := n0_; have HB := n1_; clear n0_ n1_; (try clear hb); (try clear hb2); (try clear hk); (try clear hi); have hcz20_0 : w19.cell? ⟨gb104, 0, none⟩ = some (.string ((rd_T89 l0 x12_1).f0)) := (blk_cell BK104.out 0).trans rfl; have hcz20_1 : w19.cell? ⟨gb104, 1, none⟩ = some (.string ((rd_T89 l0 x12_1).f1)) := (blk_cell BK104.out 1).trans rfl; have hfz20_0 := blk_frozen BK104.out 0; have hfz20_1 := blk_frozen BK104.out 1; have p107 : 0 ≤ ((ji11) : Int) := of_decide_eq_true (by first | (with_reducible assumption) | assumption); have q107 : (ji11) < (l0.length : Int) := of_decide_eq_true (by first | (with_reducible assumption) | assumption); obtain ⟨ad107, e107, hx107_0, hx107_1⟩ := at_T89 HR0.out (ji11) p107 q107; obtain rfl : ad103 = ad107 := (by injection e107); replace hx107_0 := (HB.out.cell (World.block_lt_of_cell? w _ hx107_0)).trans hx107_0; replace hx107_1 := (HB.out.cell (World.block_lt_of_cell? w _ hx107_1)).trans hx107_1; replace p107 := eq_true p107; replace q107 := eq_true q107))
                          repeat (go_quiet (first | ((with_reducible refine gate_dst (N := 5) rfl ?_); refine box_event ?hg (N := 5) ?hd (cs := #[.string (⟨#[]⟩ : ByteArray), .string (⟨#[]⟩ : ByteArray)]) (t := 89) ?hr ?_; (case hd => rfl); (case hg => rfl); (case hr => first | (go_simp; done) | (go_simp; rfl)); intro gb104 hg w15 hbox hb; have n0_ := Aside0.mk (below_step (by repeat (first | (with_reducible first | exact HB.out | apply below_alloc | apply pw_below_drewN | apply below_drew1) | exact HB.out)) hb); have n1_ := Aside0.mk (hbox); have n2_ := Aside0.mk ((by rw [hg]; exact (below_size (by repeat (first | (with_reducible first | exact HB.out | apply below_alloc | apply pw_below_drewN | apply below_drew1) | exact HB.out))) : w.heap.size ≤ gb104)); have n3_ := Aside0.mk ((by rw [hg]; exact (below_size (by repeat (first | (with_reducible first | exact HB.out | apply below_alloc | apply pw_below_drewN | apply below_drew1) | exact HB.out))) : w.heap.size ≤ gb104)); clear HB; have HB := n0_; have BK104 := n1_; have GW104 := n2_; have GE104 := n3_; clear n0_ n1_ n2_ n3_; clear hb hbox hg; have hcz16_0 : w15.cell? ⟨gb104, 0, none⟩ = some (.string (⟨#[]⟩ : ByteArray)) := (blk_cell BK104.out 0).trans rfl; have hcz16_1 : w15.cell? ⟨gb104, 1, none⟩ = some (.string (⟨#[]⟩ : ByteArray)) := (blk_cell BK104.out 1).trans rfl; have hfz16_0 := blk_frozen BK104.out 0; have hfz16_1 := blk_frozen BK104.out 1) | (go_at_call 99; (with_reducible refine (labels_Name.calls ((rd_T89 l0 x12_1).f0) true _ A6.out).mono ?_); rintro e w17 ⟨rfl, hb⟩; have n0_ := Aside0.mk (blk_below (g := gb104) (o := .cells #[.string ((rd_T89 l0 x12_1).f0), .string ((rd_T89 l0 x12_1).f1)] 89 (0, 0)) (by (with_reducible repeat (first | refine blk_drewN ?_ _ | refine blk_drew ?_ | refine blk_alloc ?_ _)); refine blk_put (cs := #[.string ((rd_T89 l0 x12_1).f0), .string (⟨#[]⟩ : ByteArray)]) ?_ 1 _ rfl; (with_reducible repeat (first | refine blk_drewN ?_ _ | refine blk_drew ?_ | refine blk_alloc ?_ _)); refine blk_put (cs := #[.string (⟨#[]⟩ : ByteArray), .string (⟨#[]⟩ : ByteArray)]) ?_ 0 _ rfl; (with_reducible repeat (first | refine blk_drewN ?_ _ | refine blk_drew ?_ | refine blk_alloc ?_ _)); exact BK104.out) hb); have n1_ := Aside0.mk (below_step (by repeat (first | (with_reducible first | exact HB.out | apply below_alloc | apply pw_below_drewN | apply below_drew1 | refine below_set ?_ GE104.out) | exact HB.out)) hb); clear BK104; clear HB; have BK104 := n0_; have HB := n1_; clear n0_ n1_; (try clear hb); (try clear hb2); (try clear hk); (try clear hi); have hcz18_0 : w17.cell? ⟨gb104, 0, none⟩ = some (.string ((rd_T89 l0 x12_1).f0)) := (blk_cell BK104.out 0).trans rfl; have hcz18_1 : w17.cell? ⟨gb104, 1, none⟩ = some (.string ((rd_T89 l0 x12_1).f1)) := (blk_cell BK104.out 1).trans rfl; have hfz18_0 := blk_frozen BK104.out 0; have hfz18_1 := blk_frozen BK104.out 1) | (go_at_call 125; (with_reducible refine (labels_value.calls ((rd_T89 l0 x12_1).f1) t106 _ ?side1 A8.out).mono ?_); (case side1 => first | exact HT.out | exact tabs_below HT.out (by repeat (first | (with_reducible first | exact HB.out | apply below_alloc | apply pw_below_drewN | apply below_drew1 | refine below_set ?_ GE104.out) | exact HB.out))); rintro e w19 ⟨rfl, hb⟩; have n0_ := Aside0.mk (blk_below (g := gb104) (o := .cells #[.string ((rd_T89 l0 x12_1).f0), .string ((rd_T89 l0 x12_1).f1)] 89 (0, 0)) (by (with_reducible repeat (first | refine blk_drewN ?_ _ | refine blk_drew ?_ | refine blk_alloc ?_ _)); exact BK104.out) hb); have n1_ := Aside0.mk (below_step (by repeat (first | (with_reducible first | exact HB.out | apply below_alloc | apply pw_below_drewN | apply below_drew1 | refine below_set ?_ GE104.out) | exact HB.out)) hb); clear BK104; clear HB; have BK104 := n0_; have HB := n1_; clear n0_ n1_; (try clear hb); (try clear hb2); (try clear hk); (try clear hi); have hcz20_0 : w19.cell? ⟨gb104, 0, none⟩ = some (.string ((rd_T89 l0 x12_1).f0)) := (blk_cell BK104.out 0).trans rfl; have hcz20_1 : w19.cell? ⟨gb104, 1, none⟩ = some (.string ((rd_T89 l0 x12_1).f1)) := (blk_cell BK104.out 1).trans rfl; have hfz20_0 := blk_frozen BK104.out 0; have hfz20_1 := blk_frozen BK104.out 1; have p107 : 0 ≤ ((ji11) : Int) := of_decide_eq_true (by first | (with_reducible assumption) | assumption); have q107 : (ji11) < (l0.length : Int) := of_decide_eq_true (by first | (with_reducible assumption) | assumption); obtain ⟨ad107, e107, hx107_0, hx107_1⟩ := at_T89 HR0.out (ji11) p107 q107; obtain rfl : ad103 = ad107 := (by injection e107); replace hx107_0 := (HB.out.cell (World.block_lt_of_cell? w _ hx107_0)).trans hx107_0; replace hx107_1 := (HB.out.cell (World.block_lt_of_cell? w _ hx107_1)).trans hx107_1; replace p107 := eq_true p107; replace q107 := eq_true q107)); try go_wp2_with (first | ((with_reducible refine gate_dst (N := 5) rfl ?_); refine box_event ?hg (N := 5) ?hd (cs := #[.string (⟨#[]⟩ : ByteArray), .string (⟨#[]⟩ : ByteArray)]) (t := 89) ?hr ?_; (case hd => rfl); (case hg => rfl); (case hr => first | (go_simp; done) | (go_simp; rfl)); intro gb104 hg w15 hbox hb; have n0_ := Aside0.mk (below_step (by repeat (first | (with_reducible first | exact HB.out | apply below_alloc | apply pw_below_drewN | apply below_drew1) | exact HB.out)) hb); have n1_ := Aside0.mk (hbox); have n2_ := Aside0.mk ((by rw [hg]; exact (below_size (by repeat (first | (with_reducible first | exact HB.out | apply below_alloc | apply pw_below_drewN | apply below_drew1) | exact HB.out))) : w.heap.size ≤ gb104)); have n3_ := Aside0.mk ((by rw [hg]; exact (below_size (by repeat (first | (with_reducible first | exact HB.out | apply below_alloc | apply pw_below_drewN | apply below_drew1) | exact HB.out))) : w.heap.size ≤ gb104)); clear HB; have HB := n0_; have BK104 := n1_; have GW104 := n2_; have GE104 := n3_; clear n0_ n1_ n2_ n3_; clear hb hbox hg; have hcz16_0 : w15.cell? ⟨gb104, 0, none⟩ = some (.string (⟨#[]⟩ : ByteArray)) := (blk_cell BK104.out 0).trans rfl; have hcz16_1 : w15.cell? ⟨gb104, 1, none⟩ = some (.string (⟨#[]⟩ : ByteArray)) := (blk_cell BK104.out 1).trans rfl; have hfz16_0 := blk_frozen BK104.out 0; have hfz16_1 := blk_frozen BK104.out 1) | (go_at_call 99; (with_reducible refine (labels_Name.calls ((rd_T89 l0 x12_1).f0) true _ A6.out).mono ?_); rintro e w17 ⟨rfl, hb⟩; have n0_ := Aside0.mk (blk_below (g := gb104) (o := .cells #[.string ((rd_T89 l0 x12_1).f0), .string ((rd_T89 l0 x12_1).f1)] 89 (0, 0)) (by (with_reducible repeat (first | refine blk_drewN ?_ _ | refine blk_drew ?_ | refine blk_alloc ?_ _)); refine blk_put (cs := #[.string ((rd_T89 l0 x12_1).f0), .string (⟨#[]⟩ : ByteArray)]) ?_ 1 _ rfl; (with_reducible repeat (first | refine blk_drewN ?_ _ | refine blk_drew ?_ | refine blk_alloc ?_ _)); refine blk_put (cs := #[.string (⟨#[]⟩ : ByteArray), .string (⟨#[]⟩ : ByteArray)]) ?_ 0 _ rfl; (with_reducible repeat (first | refine blk_drewN ?_ _ | refine blk_drew ?_ | refine blk_alloc ?_ _)); exact BK104.out) hb); have n1_ := Aside0.mk (below_step (by repeat (first | (with_reducible first | exact HB.out | apply below_alloc | apply pw_below_drewN | apply below_drew1 | refine below_set ?_ GE104.out) | exact HB.out)) hb); clear BK104; clear HB; have BK104 := n0_; have HB := n1_; clear n0_ n1_; (try clear hb); (try clear hb2); (try clear hk); (try clear hi); have hcz18_0 : w17.cell? ⟨gb104, 0, none⟩ = some (.string ((rd_T89 l0 x12_1).f0)) := (blk_cell BK104.out 0).trans rfl; have hcz18_1 : w17.cell? ⟨gb104, 1, none⟩ = some (.string ((rd_T89 l0 x12_1).f1)) := (blk_cell BK104.out 1).trans rfl; have hfz18_0 := blk_frozen BK104.out 0; have hfz18_1 := blk_frozen BK104.out 1) | (go_at_call 125; (with_reducible refine (labels_value.calls ((rd_T89 l0 x12_1).f1) t106 _ ?side1 A8.out).mono ?_); (case side1 => first | exact HT.out | exact tabs_below HT.out (by repeat (first | (with_reducible first | exact HB.out | apply below_alloc | apply pw_below_drewN | apply below_drew1 | refine below_set ?_ GE104.out) | exact HB.out))); rintro e w19 ⟨rfl, hb⟩; have n0_ := Aside0.mk (blk_below (g := gb104) (o := .cells #[.string ((rd_T89 l0 x12_1).f0), .string ((rd_T89 l0 x12_1).f1)] 89 (0, 0)) (by (with_reducible repeat (first | refine blk_drewN ?_ _ | refine blk_drew ?_ | refine blk_alloc ?_ _)); exact BK104.out) hb); have n1_ := Aside0.mk (below_step (by repeat (first | (with_reducible first | exact HB.out | apply below_alloc | apply pw_below_drewN | apply below_drew1 | refine below_set ?_ GE104.out) | exact HB.out)) hb); clear BK104; clear HB; have BK104 := n0_; have HB := n1_; clear n0_ n1_; (try clear hb); (try clear hb2); (try clear hk); (try clear hi); have hcz20_0 : w19.cell? ⟨gb104, 0, none⟩ = some (.string ((rd_T89 l0 x12_1).f0)) := (blk_cell BK104.out 0).trans rfl; have hcz20_1 : w19.cell? ⟨gb104, 1, none⟩ = some (.string ((rd_T89 l0 x12_1).f1)) := (blk_cell BK104.out 1).trans rfl; have hfz20_0 := blk_frozen BK104.out 0; have hfz20_1 := blk_frozen BK104.out 1; have p107 : 0 ≤ ((ji11) : Int) := of_decide_eq_true (by first | (with_reducible assumption) | assumption); have q107 : (ji11) < (l0.length : Int) := of_decide_eq_true (by first | (with_reducible assumption) | assumption); obtain ⟨ad107, e107, hx107_0, hx107_1⟩ := at_T89 HR0.out (ji11) p107 q107; obtain rfl : ad103 = ad107 := (by injection e107); replace hx107_0 := (HB.out.cell (World.block_lt_of_cell? w _ hx107_0)).trans hx107_0; replace hx107_1 := (HB.out.cell (World.block_lt_of_cell? w _ hx107_1)).trans hx107_1; replace p107 := eq_true p107; replace q107 := eq_true q107)))
                          go_roundg k1
                          case measure => have := HK1.out; omega
                          case rel => exact ⟨(wrap64 (x12_1 + 1)), (by first | rfl | (simp; done) | (simp [*]; done)), H', ⟨by have := HK1.out; omega⟩, ⟨by repeat (first | (with_reducible first | exact HB.out | apply below_alloc | apply pw_below_drewN | apply below_drew1 | refine below_set ?_ GE104.out) | exact HB.out)⟩⟩
                        · rw [if_neg c14] at H
                          have c14b0 : (Op.bytesLess (((rd_T89 l0 (ji11)).f0).toList) (((rd_T89 l0 x12_1).f0).toList)) = false := by simpa using c14
                          clear c14
                          simp only [Option.some.injEq, Prod.mk.injEq] at H
                          obtain ⟨rfl, rfl⟩ := H
                          have p103 : 0 ≤ (x12_1 : Int) := of_decide_eq_true (by first | (with_reducible assumption) | assumption)
                          have q103 : x12_1 < (l0.length : Int) := of_decide_eq_true (by first | (with_reducible assumption) | assumption)
                          obtain ⟨ad103, e103, hx103_0, hx103_1⟩ := at_T89 HR0.out x12_1 p103 q103
                          cases e103
                          replace hx103_0 := (HB.out.cell (World.block_lt_of_cell? w _ hx103_0)).trans hx103_0
                          replace hx103_1 := (HB.out.cell (World.block_lt_of_cell? w _ hx103_1)).trans hx103_1
                          replace p103 := eq_true p103
                          replace q103 := eq_true q103
                          go_wp2_with (first | ((with_reducible refine gate_dst (N := 5) rfl ?_); refine box_event ?hg (N := 5) ?hd (cs := #[.string (⟨#[]⟩ : ByteArray), .string (⟨#[]⟩ : ByteArray)]) (t := 89) ?hr ?_; (case hd => rfl); (case hg => rfl); (case hr => first | (go_simp; done) | (go_simp; rfl)); intro gb104 hg w21 hbox hb; have n0_ := Aside0.mk (below_step (by repeat (first | (with_reducible first | exact HB.out | apply below_alloc | apply pw_below_drewN | apply below_drew1) | exact HB.out)) hb); have n1_ := Aside0.mk (hbox); have n2_ := Aside0.mk ((by rw [hg]; exact (below_size (by repeat (first | (with_reducible first | exact HB.out | apply below_alloc | apply pw_below_drewN | apply below_drew1) | exact HB.out))) : w.heap.size ≤ gb104)); have n3_ := Aside0.mk ((by rw [hg]; exact (below_size (by repeat (first | (with_reducible first | exact HB.out | apply below_alloc | apply pw_below_drewN | apply below_drew1) | exact HB.out))) : w.heap.size ≤ gb104)); clear HB; have HB := n0_; have BK104 := n1_; have GW104 := n2_; have GE104 := n3_; clear n0_ n1_ n2_ n3_; clear hb hbox hg; have hcz22_0 : w21.cell? ⟨gb104, 0, none⟩ = some (.string (⟨#[]⟩ : ByteArray)) := (blk_cell BK104.out 0).trans rfl; have hcz22_1 : w21.cell? ⟨gb104, 1, none⟩ = some (.string (⟨#[]⟩ : ByteArray)) := (blk_cell BK104.out 1).trans rfl; have hfz22_0 := blk_frozen BK104.out 0; have hfz22_1 := blk_frozen BK104.out 1) | (go_at_call 99; (with_reducible refine (labels_Name.calls ((rd_T89 l0 x12_1).f0) true _ A6.out).mono ?_); rintro e w23 ⟨rfl, hb⟩; have n0_ := Aside0.mk (blk_below (g := gb104) (o := .cells #[.string ((rd_T89 l0 x12_1).f0), .string ((rd_T89 l0 x12_1).f1)] 89 (0, 0)) (by (with_reducible repeat (first | refine blk_drewN ?_ _ | refine blk_drew ?_ | refine blk_alloc ?_ _)); refine blk_put (cs := #[.string ((rd_T89 l0 x12_1).f0), .string (⟨#[]⟩ : ByteArray)]) ?_ 1 _ rfl; (with_reducible repeat (first | refine blk_drewN ?_ _ | refine blk_drew ?_ | refine blk_alloc ?_ _)); refine blk_put (cs := #[.string (⟨#[]⟩ : ByteArray), .string (⟨#[]⟩ : ByteArray)]) ?_ 0 _ rfl; (with_reducible repeat (first | refine blk_drewN ?_ _ | refine blk_drew ?_ | refine blk_alloc ?_ _)); exact BK104.out) hb); have n1_ := Aside0.mk (below_step (by repeat (first | (with_reducible first | exact HB.out | apply below_alloc | apply pw_below_drewN | apply below_drew1 | refine below_set ?_ GE104.out) | exact HB.out)) hb); clear BK104; clear HB; have BK104 := n0_; have HB := n1_; clear n0_ n1_; (try clear hb); (try clear hb2); (try clear hk); (try clear hi); have hcz24_0 : w23.cell? ⟨gb104, 0, none⟩ = some (.string ((rd_T89 l0 x12_1).f0)) := (blk_cell BK104.out 0).trans rfl; have hcz24_1 : w23.cell? ⟨gb104, 1, none⟩ = some (.string ((rd_T89 l0 x12_1).f1)) := (blk_cell BK104.out 1).trans rfl; have hfz24_0 := blk_frozen BK104.out 0; have hfz24_1 := blk_frozen BK104.out 1) | (go_at_call 125; (with_reducible refine (labels_value.calls ((rd_T89 l0 x12_1).f1) t106 _ ?side1 A8.out).mono ?_); (case side1 => first | exact HT.out | exact tabs_below HT.out (by repeat (first | (with_reducible first | exact HB.out | apply below_alloc | apply pw_below_drewN | apply below_drew1 | refine below_set ?_ GE104.out) | exact HB.out))); rintro e w25 ⟨rfl, hb⟩; have n0_ := Aside0.mk (blk_below (g := gb104) (o := .cells #[.string ((rd_T89 l0 x12_1).f0), .string ((rd_T89 l0 x12_1).f1)] 89 (0, 0)) (by (with_reducible repeat (first | refine blk_drewN ?_ _ | refine blk_drew ?_ | refine blk_alloc ?_ _)); exact BK104.out) hb); have n1_ := Aside0.mk (below_step (by repeat (first | (with_reducible first | exact HB.out | apply below_alloc | apply pw_below_drewN | apply below_drew1 | refine below_set ?_ GE104.out) | exact HB.out)) hb); clear BK104; clear HB; have BK104 := n0_; have HB := n1_; clear n0_ n1_; (try clear hb); (try clear hb2); (try clear hk); (try clear hi); have hcz26_0 : w25.cell? ⟨gb104, 0, none⟩ = some (.string ((rd_T89 l0 x12_1).f0)) := (blk_cell BK104.out 0).trans rfl; have hcz26_1 : w25.cell? ⟨gb104, 1, none⟩ = some (.string ((rd_T89 l0 x12_1).f1)) := (blk_cell BK104.out 1).trans rfl; have hfz26_0 := blk_frozen BK104.out 0; have hfz26_1 := blk_frozen BK104.out 1; have p107 : 0 ≤ ((ji11) : Int) := of_decide_eq_true (by first | (with_reducible assumption) | assumption); have q107 : (ji11) < (l0.length : Int) := of_decide_eq_true (by first | (with_reducible assumption) | assumption); obtain ⟨ad107, e107, hx107_0, hx107_1⟩ := at_T89 HR0.out (ji11) p107 q107; obtain rfl : ad103 = ad107 := (by injection e107); replace hx107_0 := (HB.out.cell (World.block_lt_of_cell? w _ hx107_0)).trans hx107_0; replace hx107_1 := (HB.out.cell (World.block_lt_of_cell? w _ hx107_1)).trans hx107_1; replace p107 := eq_true p107; replace q107 := eq_true q107))
                          repeat (go_quiet (first | ((with_reducible refine gate_dst (N := 5) rfl ?_); refine box_event ?hg (N := 5) ?hd (cs := #[.string (⟨#[]⟩ : ByteArray), .string (⟨#[]⟩ : ByteArray)]) (t := 89) ?hr ?_; (case hd => rfl); (case hg => rfl); (case hr => first | (go_simp; done) | (go_simp; rfl)); intro gb104 hg w21 hbox hb; have n0_ := Aside0.mk (below_step (by repeat (first | (with_reducible first | exact HB.out | apply below_alloc | apply pw_below_drewN | apply below_drew1) | exact HB.out)) hb); have n1_ := Aside0.mk (hbox); have n2_ := Aside0.mk ((by rw [hg]; exact (below_size (by repeat (first | (with_reducible first | exact HB.out | apply below_alloc | apply pw_below_drewN | apply below_drew1) | exact HB.out))) : w.heap.size ≤ gb104)); have n3_ := Aside0.mk ((by rw [hg]; exact (below_size (by repeat (first | (with_reducible first | exact HB.out | apply below_alloc | apply pw_below_drewN | apply below_drew1) | exact HB.out))) : w.heap.size ≤ gb104)); clear HB; have HB := n0_; have BK104 := n1_; have GW104 := n2_; have GE104 := n3_; clear n0_ n1_ n2_ n3_; clear hb hbox hg; have hcz22_0 : w21.cell? ⟨gb104, 0, none⟩ = some (.string (⟨#[]⟩ : ByteArray)) := (blk_cell BK104.out 0).trans rfl; have hcz22_1 : w21.cell? ⟨gb104, 1, none⟩ = some (.string (⟨#[]⟩ : ByteArray)) := (blk_cell BK104.out 1).trans rfl; have hfz22_0 := blk_frozen BK104.out 0; have hfz22_1 := blk_frozen BK104.out 1) | (go_at_call 99; (with_reducible refine (labels_Name.calls ((rd_T89 l0 x12_1).f0) true _ A6.out).mono ?_); rintro e w23 ⟨rfl, hb⟩; have n0_ := Aside0.mk (blk_below (g := gb104) (o := .cells #[.string ((rd_T89 l0 x12_1).f0), .string ((rd_T89 l0 x12_1).f1)] 89 (0, 0)) (by (with_reducible repeat (first | refine blk_drewN ?_ _ | refine blk_drew ?_ | refine blk_alloc ?_ _)); refine blk_put (cs := #[.string ((rd_T89 l0 x12_1).f0), .string (⟨#[]⟩ : ByteArray)]) ?_ 1 _ rfl; (with_reducible repeat (first | refine blk_drewN ?_ _ | refine blk_drew ?_ | refine blk_alloc ?_ _)); refine blk_put (cs := #[.string (⟨#[]⟩ : ByteArray), .string (⟨#[]⟩ : ByteArray)]) ?_ 0 _ rfl; (with_reducible repeat (first | refine blk_drewN ?_ _ | refine blk_drew ?_ | refine blk_alloc ?_ _)); exact BK104.out) hb); have n1_ := Aside0.mk (below_step (by repeat (first | (with_reducible first | exact HB.out | apply below_alloc | apply pw_below_drewN | apply below_drew1 | refine below_set ?_ GE104.out) | exact HB.out)) hb); clear BK104; clear HB; have BK104 := n0_; have HB := n1_; clear n0_ n1_; (try clear hb); (try clear hb2); (try clear hk); (try clear hi); have hcz24_0 : w23.cell? ⟨gb104, 0, none⟩ = some (.string ((rd_T89 l0 x12_1).f0)) := (blk_cell BK104.out 0).trans rfl; have hcz24_1 : w23.cell? ⟨gb104, 1, none⟩ = some (.string ((rd_T89 l0 x12_1).f1)) := (blk_cell BK104.out 1).trans rfl; have hfz24_0 := blk_frozen BK104.out 0; have hfz24_1 := blk_frozen BK104.out 1) | (go_at_call 125; (with_reducible refine (labels_value.calls ((rd_T89 l0 x12_1).f1) t106 _ ?side1 A8.out).mono ?_); (case side1 => first | exact HT.out | exact tabs_below HT.out (by repeat (first | (with_reducible first | exact HB.out | apply below_alloc | apply pw_below_drewN | apply below_drew1 | refine below_set ?_ GE104.out) | exact HB.out))); rintro e w25 ⟨rfl, hb⟩; have n0_ := Aside0.mk (blk_below (g := gb104) (o := .cells #[.string ((rd_T89 l0 x12_1).f0), .string ((rd_T89 l0 x12_1).f1)] 89 (0, 0)) (by (with_reducible repeat (first | refine blk_drewN ?_ _ | refine blk_drew ?_ | refine blk_alloc ?_ _)); exact BK104.out) hb); have n1_ := Aside0.mk (below_step (by repeat (first | (with_reducible first | exact HB.out | apply below_alloc | apply pw_below_drewN | apply below_drew1 | refine below_set ?_ GE104.out) | exact HB.out)) hb); clear BK104; clear HB; have BK104 := n0_; have HB := n1_; clear n0_ n1_; (try clear hb); (try clear hb2); (try clear hk); (try clear hi); have hcz26_0 : w25.cell? ⟨gb104, 0, none⟩ = some (.string ((rd_T89 l0 x12_1).f0)) := (blk_cell BK104.out 0).trans rfl; have hcz26_1 : w25.cell? ⟨gb104, 1, none⟩ = some (.string ((rd_T89 l0 x12_1).f1)) := (blk_cell BK104.out 1).trans rfl; have hfz26_0 := blk_frozen BK104.out 0; have hfz26_1 := blk_frozen BK104.out 1; have p107 : 0 ≤ ((ji11) : Int) := of_decide_eq_true (by first | (with_reducible assumption) | assumption); have q107 : (ji11) < (l0.length : Int) := of_decide_eq_true (by first | (with_reducible assumption) | assumption); obtain ⟨ad107, e107, hx107_0, hx107_1⟩ := at_T89 HR0.out (ji11) p107 q107; obtain rfl : ad103 = ad107 := (by injection e107); replace hx107_0 := (HB.out.cell (World.block_lt_of_cell? w _ hx107_0)).trans hx107_0; replace hx107_1 := (HB.out.cell (World.block_lt_of_cell? w _ hx107_1)).trans hx107_1; replace p107 := eq_true p107; replace q107 := eq_true q107)); try go_wp2_with (first | ((with_reducible refine gate_dst (N := 5) rfl ?_); refine box_event ?hg (N := 5) ?hd (cs := #[.string (⟨#[]⟩ : ByteArray), .string (⟨#[]⟩ : ByteArray)]) (t := 89) ?hr ?_; (case hd => rfl); (case hg => rfl); (case hr => first | (go_simp; done) | (go_simp; rfl)); intro gb104 hg w21 hbox hb; have n0_ := Aside0.mk (below_step (by repeat (first | (with_reducible first | exact HB.out | apply below_alloc | apply pw_below_drewN | apply below_drew1) | exact HB.out)) hb); have n1_ := Aside0.mk (hbox); have n2_ := Aside0.mk ((by rw [hg]; exact (below_size (by repeat (first | (with_reducible first | exact HB.out | apply below_alloc | apply pw_below_drewN | apply below_drew1) | exact HB.out))) : w.heap.size ≤ gb104)); have n3_ := Aside0.mk ((by rw [hg]; exact (below_size (by repeat (first | (with_reducible first | exact HB.out | apply below_alloc | apply pw_below_drewN | apply below_drew1) | exact HB.out))) : w.heap.size ≤ gb104)); clear HB; have HB := n0_; have BK104 := n1_; have GW104 := n2_; have GE104 := n3_; clear n0_ n1_ n2_ n3_; clear hb hbox hg; have hcz22_0 : w21.cell? ⟨gb104, 0, none⟩ = some (.string (⟨#[]⟩ : ByteArray)) := (blk_cell BK104.out 0).trans rfl; have hcz22_1 : w21.cell? ⟨gb104, 1, none⟩ = some (.string (⟨#[]⟩ : ByteArray)) := (blk_cell BK104.out 1).trans rfl; have hfz22_0 := blk_frozen BK104.out 0; have hfz22_1 := blk_frozen BK104.out 1) | (go_at_call 99; (with_reducible refine (labels_Name.calls ((rd_T89 l0 x12_1).f0) true _ A6.out).mono ?_); rintro e w23 ⟨rfl, hb⟩; have n0_ := Aside0.mk (blk_below (g := gb104) (o := .cells #[.string ((rd_T89 l0 x12_1).f0), .string ((rd_T89 l0 x12_1).f1)] 89 (0, 0)) (by (with_reducible repeat (first | refine blk_drewN ?_ _ | refine blk_drew ?_ | refine blk_alloc ?_ _)); refine blk_put (cs := #[.string ((rd_T89 l0 x12_1).f0), .string (⟨#[]⟩ : ByteArray)]) ?_ 1 _ rfl; (with_reducible repeat (first | refine blk_drewN ?_ _ | refine blk_drew ?_ | refine blk_alloc ?_ _)); refine blk_put (cs := #[.string (⟨#[]⟩ : ByteArray), .string (⟨#[]⟩ : ByteArray)]) ?_ 0 _ rfl; (with_reducible repeat (first | refine blk_drewN ?_ _ | refine blk_drew ?_ | refine blk_alloc ?_ _)); exact BK104.out) hb); have n1_ := Aside0.mk (below_step (by repeat (first | (with_reducible first | exact HB.out | apply below_alloc | apply pw_below_drewN | apply below_drew1 | refine below_set ?_ GE104.out) | exact HB.out)) hb); clear BK104; clear HB; have BK104 := n0_; have HB := n1_; clear n0_ n1_; (try clear hb); (try clear hb2); (try clear hk); (try clear hi); have hcz24_0 : w23.cell? ⟨gb104, 0, none⟩ = some (.string ((rd_T89 l0 x12_1).f0)) := (blk_cell BK104.out 0).trans rfl; have hcz24_1 : w23.cell? ⟨gb104, 1, none⟩ = some (.string ((rd_T89 l0 x12_1).f1)) := (blk_cell BK104.out 1).trans rfl; have hfz24_0 := blk_frozen BK104.out 0; have hfz24_1 := blk_frozen BK104.out 1) | (go_at_call 125; (with_reducible refine (labels_value.calls ((rd_T89 l0 x12_1).f1) t106 _ ?side1 A8.out).mono ?_); (case side1 => first | exact HT.out | exact tabs_below HT.out (by repeat (first | (with_reducible first | exact HB.out | apply below_alloc | apply pw_below_drewN | apply below_drew1 | refine below_set ?_ GE104.out) | exact HB.out))); rintro e w25 ⟨rfl, hb⟩; have n0_ := Aside0.mk (blk_below (g := gb104) (o := .cells #[.string ((rd_T89 l0 x12_1).f0), .string ((rd_T89 l0 x12_1).f1)] 89 (0, 0)) (by (with_reducible repeat (first | refine blk_drewN ?_ _ | refine blk_drew ?_ | refine blk_alloc ?_ _)); exact BK104.out) hb); have n1_ := Aside0.mk (below_step (by repeat (first | (with_reducible first | exact HB.out | apply below_alloc | apply pw_below_drewN | apply below_drew1 | refine below_set ?_ GE104.out) | exact HB.out)) hb); clear BK104; clear HB; have BK104 := n0_; have HB := n1_; clear n0_ n1_; (try clear hb); (try clear hb2); (try clear hk); (try clear hi); have hcz26_0 : w25.cell? ⟨gb104, 0, none⟩ = some (.string ((rd_T89 l0 x12_1).f0)) := (blk_cell BK104.out 0).trans rfl; have hcz26_1 : w25.cell? ⟨gb104, 1, none⟩ = some (.string ((rd_T89 l0 x12_1).f1)) := (blk_cell BK104.out 1).trans rfl; have hfz26_0 := blk_frozen BK104.out 0; have hfz26_1 := blk_frozen BK104.out 1; have p107 : 0 ≤ ((ji11) : Int) := of_decide_eq_true (by first | (with_reducible assumption) | assumption); have q107 : (ji11) < (l0.length : Int) := of_decide_eq_true (by first | (with_reducible assumption) | assumption); obtain ⟨ad107, e107, hx107_0, hx107_1⟩ := at_T89 HR0.out (ji11) p107 q107; obtain rfl : ad103 = ad107 := (by injection e107); replace hx107_0 := (HB.out.cell (World.block_lt_of_cell? w _ hx107_0)).trans hx107_0; replace hx107_1 := (HB.out.cell (World.block_lt_of_cell? w _ hx107_1)).trans hx107_1; replace p107 := eq_true p107; replace q107 := eq_true q107)))
                          go_ret2
                          exact ⟨by first | rfl | (simp [errW_none, errW_some] <;> rfl) | (simp only [← hji11]; first | rfl | (simp [errW_none, errW_some] <;> rfl)) | (simp [*, errW_none, errW_some] <;> rfl), by repeat (first | (with_reducible first | exact HB.out | apply below_alloc | apply pw_below_drewN | apply below_drew1 | refine below_set ?_ GE104.out) | exact HB.out)⟩
                      · rw [if_neg c13] at H
                        exact absurd H (by simp)
                    · rw [if_neg c12] at H
                      exact absurd H (by simp)
                  · rw [if_neg c10] at H
                    have c10b0 : decide (0 < x12_1) = false := decide_eq_false c10
                    clear c10
                    have H' := Aside0.mk H
                    clear H
                    have p103 : 0 ≤ (x12_1 : Int) := of_decide_eq_true (by first | (with_reducible assumption) | assumption)
                    have q103 : x12_1 < (l0.length : Int) := of_decide_eq_true (by first | (with_reducible assumption) | assumption)
                    obtain ⟨ad103, e103, hx103_0, hx103_1⟩ := at_T89 HR0.out x12_1 p103 q103
                    cases e103
                    replace hx103_0 := (HB.out.cell (World.block_lt_of_cell? w _ hx103_0)).trans hx103_0
                    replace hx103_1 := (HB.out.cell (World.block_lt_of_cell? w _ hx103_1)).trans hx103_1
                    replace p103 := eq_true p103
                    replace q103 := eq_true q103
                    go_wp2_with (first | ((with_reducible refine gate_dst (N := 5) rfl ?_); refine box_event ?hg (N := 5) ?hd (cs := #[.string (⟨#[]⟩ : ByteArray), .string (⟨#[]⟩ : ByteArray)]) (t := 89) ?hr ?_; (case hd => rfl); (case hg => rfl); (case hr => first | (go_simp; done) | (go_simp; rfl)); intro gb104 hg w27 hbox hb; have n0_ := Aside0.mk (below_step (by repeat (first | (with_reducible first | exact HB.out | apply below_alloc | apply pw_below_drewN | apply below_drew1) | exact HB.out)) hb); have n1_ := Aside0.mk (hbox); have n2_ := Aside0.mk ((by rw [hg]; exact (below_size (by repeat (first | (with_reducible first | exact HB.out | apply below_alloc | apply pw_below_drewN | apply below_drew1) | exact HB.out))) : w.heap.size ≤ gb104)); have n3_ := Aside0.mk ((by rw [hg]; exact (below_size (by repeat (first | (with_reducible first | exact HB.out | apply below_alloc | apply pw_below_drewN | apply below_drew1) | exact HB.out))) : w.heap.size ≤ gb104)); clear HB; have HB := n0_; have BK104 := n1_; have GW104 := n2_; have GE104 := n3_; clear n0_ n1_ n2_ n3_; clear hb hbox hg; have hcz28_0 : w27.cell? ⟨gb104, 0, none⟩ = some (.string (⟨#[]⟩ : ByteArray)) := (blk_cell BK104.out 0).trans rfl; have hcz28_1 : w27.cell? ⟨gb104, 1, none⟩ = some (.string (⟨#[]⟩ : ByteArray)) := (blk_cell BK104.out 1).trans rfl; have hfz28_0 := blk_frozen BK104.out 0; have hfz28_1 := blk_frozen BK104.out 1) | (go_at_call 99; (with_reducible refine (labels_Name.calls ((rd_T89 l0 x12_1).f0) true _ A6.out).mono ?_); rintro e w29 ⟨rfl, hb⟩; have n0_ := Aside0.mk (blk_below (g := gb104) (o := .cells #[.string ((rd_T89 l0 x12_1).f0), .string ((rd_T89 l0 x12_1).f1)] 89 (0, 0)) (by (with_reducible repeat (first | refine blk_drewN ?_ _ | refine blk_drew ?_ | refine blk_alloc ?_ _)); refine blk_put (cs := #[.string ((rd_T89 l0 x12_1).f0), .string (⟨#[]⟩ : ByteArray)]) ?_ 1 _ rfl; (with_reducible repeat (first | refine blk_drewN ?_ _ | refine blk_drew ?_ | refine blk_alloc ?_ _)); refine blk_put (cs := #[.string (⟨#[]⟩ : ByteArray), .string (⟨#[]⟩ : ByteArray)]) ?_ 0 _ rfl; (with_reducible repeat (first | refine blk_drewN ?_ _ | refine blk_drew ?_ | refine blk_alloc ?_ _)); exact BK104.out) hb); have n1_ := Aside0.mk (below_step (by repeat (first | (with_reducible first | exact HB.out | apply below_alloc | apply pw_below_drewN | apply below_drew1 | refine below_set ?_ GE104.out) | exact HB.out)) hb); clear BK104; clear HB; have BK104 := n0_; have HB := n1_; clear n0_ n1_; (try clear hb); (try clear hb2); (try clear hk); (try clear hi); have hcz30_0 : w29.cell? ⟨gb104, 0, none⟩ = some (.string ((rd_T89 l0 x12_1).f0)) := (blk_cell BK104.out 0).trans rfl; have hcz30_1 : w29.cell? ⟨gb104, 1, none⟩ = some (.string ((rd_T89 l0 x12_1).f1)) := (blk_cell BK104.out 1).trans rfl; have hfz30_0 := blk_frozen BK104.out 0; have hfz30_1 := blk_frozen BK104.out 1) | (go_at_call 125; (with_reducible refine (labels_value.calls ((rd_T89 l0 x12_1).f1) t106 _ ?side1 A8.out).mono ?_); (case side1 => first | exact HT.out | exact tabs_below HT.out (by repeat (first | (with_reducible first | exact HB.out | apply below_alloc | apply pw_below_drewN | apply below_drew1 | refine below_set ?_ GE104.out) | exact HB.out))); rintro e w31 ⟨rfl, hb⟩; have n0_ := Aside0.mk (blk_below (g := gb104) (o := .cells #[.string ((rd_T89 l0 x12_1).f0), .string ((rd_T89 l0 x12_1).f1)] 89 (0, 0)) (by (with_reducible repeat (first | refine blk_drewN ?_ _ | refine blk_drew ?_ | refine blk_alloc ?_ _)); exact BK104.out) hb); have n1_ := Aside0.mk (below_step (by repeat (first | (with_reducible first | exact HB.out | apply below_alloc | apply pw_below_drewN | apply below_drew1 | refine below_set ?_ GE104.out) | exact HB.out)) hb); clear BK104; clear HB; have BK104 := n0_; have HB := n1_; clear n0_ n1_; (try clear hb); (try clear hb2); (try clear hk); (try clear hi)))
                    repeat (go_quiet (first | ((with_reducible refine gate_dst (N := 5) rfl ?_); refine box_event ?hg (N := 5) ?hd (cs := #[.string (⟨#[]⟩ : ByteArray), .string (⟨#[]⟩ : ByteArray)]) (t := 89) ?hr ?_; (case hd => rfl); (case hg => rfl); (case hr => first | (go_simp; done) | (go_simp; rfl)); intro gb104 hg w27 hbox hb; have n0_ := Aside0.mk (below_step (by repeat (first | (with_reducible first | exact HB.out | apply below_alloc | apply pw_below_drewN | apply below_drew1) | exact HB.out)) hb); have n1_ := Aside0.mk (hbox); have n2_ := Aside0.mk ((by rw [hg]; exact (below_size (by repeat (first | (with_reducible first | exact HB.out | apply below_alloc | apply pw_below_drewN | apply below_drew1) | exact HB.out))) : w.heap.size ≤ gb104)); have n3_ := Aside0.mk ((by rw [hg]; exact (below_size (by repeat (first | (with_reducible first | exact HB.out | apply below_alloc | apply pw_below_drewN | apply below_drew1) | exact HB.out))) : w.heap.size ≤ gb104)); clear HB; have HB := n0_; have BK104 := n1_; have GW104 := n2_; have GE104 := n3_; clear n0_ n1_ n2_ n3_; clear hb hbox hg; have hcz28_0 : w27.cell? ⟨gb104, 0, none⟩ = some (.string (⟨#[]⟩ : ByteArray)) := (blk_cell BK104.out 0).trans rfl; have hcz28_1 : w27.cell? ⟨gb104, 1, none⟩ = some (.string (⟨#[]⟩ : ByteArray)) := (blk_cell BK104.out 1).trans rfl; have hfz28_0 := blk_frozen BK104.out 0; have hfz28_1 := blk_frozen BK104.out 1) | (go_at_call 99; (with_reducible refine (labels_Name.calls ((rd_T89 l0 x12_1).f0) true _ A6.out).mono ?_); rintro e w29 ⟨rfl, hb⟩; have n0_ := Aside0.mk (blk_below (g := gb104) (o := .cells #[.string ((rd_T89 l0 x12_1).f0), .string ((rd_T89 l0 x12_1).f1)] 89 (0, 0)) (by (with_reducible repeat (first | refine blk_drewN ?_ _ | refine blk_drew ?_ | refine blk_alloc ?_ _)); refine blk_put (cs := #[.string ((rd_T89 l0 x12_1).f0), .string (⟨#[]⟩ : ByteArray)]) ?_ 1 _ rfl; (with_reducible repeat (first | refine blk_drewN ?_ _ | refine blk_drew ?_ | refine blk_alloc ?_ _)); refine blk_put (cs := #[.string (⟨#[]⟩ : ByteArray), .string (⟨#[]⟩ : ByteArray)]) ?_ 0 _ rfl; (with_reducible repeat (first | refine blk_drewN ?_ _ | refine blk_drew ?_ | refine blk_alloc ?_ _)); exact BK104.out) hb); have n1_ := Aside0.mk (below_step (by repeat (first | (with_reducible first | exact HB.out | apply below_alloc | apply pw_below_drewN | apply below_drew1 | refine below_set ?_ GE104.out) | exact HB.out)) hb); clear BK104; clear HB; have BK104 := n0_; have HB := n1_; clear n0_ n1_; (try clear hb); (try clear hb2); (try clear hk); (try clear hi); have hcz30_0 : w29.cell? ⟨gb104, 0, none⟩ = some (.string ((rd_T89 l0 x12_1).f0)) := (blk_cell BK104.out 0).trans rfl; have hcz30_1 : w29.cell? ⟨gb104, 1, none⟩ = some (.string ((rd_T89 l0 x12_1).f1)) := (blk_cell BK104.out 1).trans rfl; have hfz30_0 := blk_frozen BK104.out 0; have hfz30_1 := blk_frozen BK104.out 1) | (go_at_call 125; (with_reducible refine (labels_value.calls ((rd_T89 l0 x12_1).f1) t106 _ ?side1 A8.out).mono ?_); (case side1 => first | exact HT.out | exact tabs_below HT.out (by repeat (first | (with_reducible first | exact HB.out | apply below_alloc | apply pw_below_drewN | apply below_drew1 | refine below_set ?_ GE104.out) | exact HB.out))); rintro e w31 ⟨rfl, hb⟩; have n0_ := Aside0.mk (blk_below (g := gb104) (o := .cells #[.string ((rd_T89 l0 x12_1).f0), .string ((rd_T89 l0 x12_1).f1)] 89 (0, 0)) (by (with_reducible repeat (first | refine blk_drewN ?_ _ | refine blk_drew ?_ | refine blk_alloc ?_ _)); exact BK104.out) hb); have n1_ := Aside0.mk (below_step (by repeat (first | (with_reducible first | exact HB.out | apply below_alloc | apply pw_below_drewN | apply below_drew1 | refine below_set ?_ GE104.out) | exact HB.out)) hb); clear BK104; clear HB; have BK104 := n0_; have HB := n1_; clear n0_ n1_; (try clear hb); (try clear hb2); (try clear hk); (try clear hi))); try go_wp2_with (first | ((with_reducible refine gate_dst (N := 5) rfl ?_); refine box_event ?hg (N := 5) ?hd (cs := #[.string (⟨#[]⟩ : ByteArray), .string (⟨#[]⟩ : ByteArray)]) (t := 89) ?hr ?_; (case hd => rfl); (case hg => rfl); (case hr => first | (go_simp; done) | (go_simp; rfl)); intro gb104 hg w27 hbox hb; have n0_ := Aside0.mk (below_step (by repeat (first | (with_reducible first | exact HB.out | apply below_alloc | apply pw_below_drewN | apply below_drew1) | exact HB.out)) hb); have n1_ := Aside0.mk (hbox); have n2_ := Aside0.mk ((by rw [hg]; exact (below_size (by repeat (first | (with_reducible first | exact HB.out | apply below_alloc | apply pw_below_drewN | apply below_drew1) | exact HB.out))) : w.heap.size ≤ gb104)); have n3_ := Aside0.mk ((by rw [hg]; exact (below_size (by repeat (first | (with_reducible first | exact HB.out | apply below_alloc | apply pw_below_drewN | apply below_drew1) | exact HB.out))) : w.heap.size ≤ gb104)); clear HB; have HB := n0_; have BK104 := n1_; have GW104 := n2_; have GE104 := n3_; clear n0_ n1_ n2_ n3_; clear hb hbox hg; have hcz28_0 : w27.cell? ⟨gb104, 0, none⟩ = some (.string (⟨#[]⟩ : ByteArray)) := (blk_cell BK104.out 0).trans rfl; have hcz28_1 : w27.cell? ⟨gb104, 1, none⟩ = some (.string (⟨#[]⟩ : ByteArray)) := (blk_cell BK104.out 1).trans rfl; have hfz28_0 := blk_frozen BK104.out 0; have hfz28_1 := blk_frozen BK104.out 1) | (go_at_call 99; (with_reducible refine (labels_Name.calls ((rd_T89 l0 x12_1).f0) true _ A6.out).mono ?_); rintro e w29 ⟨rfl, hb⟩; have n0_ := Aside0.mk (blk_below (g := gb104) (o := .cells #[.string ((rd_T89 l0 x12_1).f0), .string ((rd_T89 l0 x12_1).f1)] 89 (0, 0)) (by (with_reducible repeat (first | refine blk_drewN ?_ _ | refine blk_drew ?_ | refine blk_alloc ?_ _)); refine blk_put (cs := #[.string ((rd_T89 l0 x12_1).f0), .string (⟨#[]⟩ : ByteArray)]) ?_ 1 _ rfl; (with_reducible repeat (first | refine blk_drewN ?_ _ | refine blk_drew ?_ | refine blk_alloc ?_ _)); refine blk_put (cs := #[.string (⟨#[]⟩ : ByteArray), .string (⟨#[]⟩ : ByteArray)]) ?_ 0 _ rfl; (with_reducible repeat (first | refine blk_drewN ?_ _ | refine blk_drew ?_ | refine blk_alloc ?_ _)); exact BK104.out) hb); have n1_ := Aside0.mk (below_step (by repeat (first | (with_reducible first | exact HB.out | apply below_alloc | apply pw_below_drewN | apply below_drew1 | refine below_set ?_ GE104.out) | exact HB.out)) hb); clear BK104; clear HB; have BK104 := n0_; have HB := n1_; clear n0_ n1_; (try clear hb); (try clear hb2); (try clear hk); (try clear hi); have hcz30_0 : w29.cell? ⟨gb104, 0, none⟩ = some (.string ((rd_T89 l0 x12_1).f0)) := (blk_cell BK104.out 0).trans rfl; have hcz30_1 : w29.cell? ⟨gb104, 1, none⟩ = some (.string ((rd_T89 l0 x12_1).f1)) := (blk_cell BK104.out 1).trans rfl; have hfz30_0 := blk_frozen BK104.out 0; have hfz30_1 := blk_frozen BK104.out 1) | (go_at_call 125; (with_reducible refine (labels_value.calls ((rd_T89 l0 x12_1).f1) t106 _ ?side1 A8.out).mono ?_); (case side1 => first | exact HT.out | exact tabs_below HT.out (by repeat (first | (with_reducible first | exact HB.out | apply below_alloc | apply pw_below_drewN | apply below_drew1 | refine below_set ?_ GE104.out) | exact HB.out))); rintro e w31 ⟨rfl, hb⟩; have n0_ := Aside0.mk (blk_below (g := gb104) (o := .cells #[.string ((rd_T89 l0 x12_1).f0), .string ((rd_T89 l0 x12_1).f1)] 89 (0, 0)) (by (with_reducible repeat (first | refine blk_drewN ?_ _ | refine blk_drew ?_ | refine blk_alloc ?_ _)); exact BK104.out) hb); have n1_ := Aside0.mk (below_step (by repeat (first | (with_reducible first | exact HB.out | apply below_alloc | apply pw_below_drewN | apply below_drew1 | refine below_set ?_ GE104.out) | exact HB.out)) hb); clear BK104; clear HB; have BK104 := n0_; have HB := n1_; clear n0_ n1_; (try clear hb); (try clear hb2); (try clear hk); (try clear hi))))
                    go_roundg k1
                    case measure => have := HK1.out; omega
                    case rel => exact ⟨(wrap64 (x12_1 + 1)), (by first | rfl | (simp; done) | (simp [*]; done)), H', ⟨by have := HK1.out; omega⟩, ⟨by repeat (first | (with_reducible first | exact HB.out | apply below_alloc | apply pw_below_drewN | apply below_drew1 | refine below_set ?_ GE104.out) | exact HB.out)⟩⟩
                · rw [if_neg c9] at H
                  have c9b0 : (t106 == 0) = false := beq_eq_false_iff_ne.mpr c9
                  have c9b1 : (t106 != 0) = true := bne_iff_ne.mpr c9
                  simp only [Option.some.injEq, Prod.mk.injEq] at H
                  obtain ⟨rfl, rfl⟩ := H
                  have p103 : 0 ≤ (x12_1 : Int) := of_decide_eq_true (by first | (with_reducible assumption) | assumption)
                  have q103 : x12_1 < (l0.length : Int) := of_decide_eq_true (by first | (with_reducible assumption) | assumption)
                  obtain ⟨ad103, e103, hx103_0, hx103_1⟩ := at_T89 HR0.out x12_1 p103 q103
                  cases e103
                  replace hx103_0 := (HB.out.cell (World.block_lt_of_cell? w _ hx103_0)).trans hx103_0
                  replace hx103_1 := (HB.out.cell (World.block_lt_of_cell? w _ hx103_1)).trans hx103_1
                  replace p103 := eq_true p103
                  replace q103 := eq_true q103
                  go_wp2_with (first | ((with_reducible refine gate_dst (N := 5) rfl ?_); refine box_event ?hg (N := 5) ?hd (cs := #[.string (⟨#[]⟩ : ByteArray), .string (⟨#[]⟩ : ByteArray)]) (t := 89) ?hr ?_; (case hd => rfl); (case hg => rfl); (case hr => first | (go_simp; done) | (go_simp; rfl)); intro gb104 hg w32 hbox hb; have n0_ := Aside0.mk (below_step (by repeat (first | (with_reducible first | exact HB.out | apply below_alloc | apply pw_below_drewN | apply below_drew1) | exact HB.out)) hb); have n1_ := Aside0.mk (hbox); have n2_ := Aside0.mk ((by rw [hg]; exact (below_size (by repeat (first | (with_reducible first | exact HB.out | apply below_alloc | apply pw_below_drewN | apply below_drew1) | exact HB.out))) : w.heap.size ≤ gb104)); have n3_ := Aside0.mk ((by rw [hg]; exact (below_size (by repeat (first | (with_reducible first | exact HB.out | apply below_alloc | apply pw_below_drewN | apply below_drew1) | exact HB.out))) : w.heap.size ≤ gb104)); clear HB; have HB := n0_; have BK104 := n1_; have GW104 := n2_; have GE104 := n3_; clear n0_ n1_ n2_ n3_; clear hb hbox hg; have hcz33_0 : w32.cell? ⟨gb104, 0, none⟩ = some (.string (⟨#[]⟩ : ByteArray)) := (blk_cell BK104.out 0).trans rfl; have hcz33_1 : w32.cell? ⟨gb104, 1, none⟩ = some (.string (⟨#[]⟩ : ByteArray)) := (blk_cell BK104.out 1).trans rfl; have hfz33_0 := blk_frozen BK104.out 0; have hfz33_1 := blk_frozen BK104.out 1) | (go_at_call 99; (with_reducible refine (labels_Name.calls ((rd_T89 l0 x12_1).f0) true _ A6.out).mono ?_); rintro e w34 ⟨rfl, hb⟩; have n0_ := Aside0.mk (blk_below (g := gb104) (o := .cells #[.string ((rd_T89 l0 x12_1).f0), .string ((rd_T89 l0 x12_1).f1)] 89 (0, 0)) (by (with_reducible repeat (first | refine blk_drewN ?_ _ | refine blk_drew ?_ | refine blk_alloc ?_ _)); refine blk_put (cs := #[.string ((rd_T89 l0 x12_1).f0), .string (⟨#[]⟩ : ByteArray)]) ?_ 1 _ rfl; (with_reducible repeat (first | refine blk_drewN ?_ _ | refine blk_drew ?_ | refine blk_alloc ?_ _)); refine blk_put (cs := #[.string (⟨#[]⟩ : ByteArray), .string (⟨#[]⟩ : ByteArray)]) ?_ 0 _ rfl; (with_reducible repeat (first | refine blk_drewN ?_ _ | refine blk_drew ?_ | refine blk_alloc ?_ _)); exact BK104.out) hb); have n1_ := Aside0.mk (below_step (by repeat (first | (with_reducible first | exact HB.out | apply below_alloc | apply pw_below_drewN | apply below_drew1 | refine below_set ?_ GE104.out) | exact HB.out)) hb); clear BK104; clear HB; have BK104 := n0_; have HB := n1_; clear n0_ n1_; (try clear hb); (try clear hb2); (try clear hk); (try clear hi); have hcz35_0 : w34.cell? ⟨gb104, 0, none⟩ = some (.string ((rd_T89 l0 x12_1).f0)) := (blk_cell BK104.out 0).trans rfl; have hcz35_1 : w34.cell? ⟨gb104, 1, none⟩ = some (.string ((rd_T89 l0 x12_1).f1)) := (blk_cell BK104.out 1).trans rfl; have hfz35_0 := blk_frozen BK104.out 0; have hfz35_1 := blk_frozen BK104.out 1) | (go_at_call 125; (with_reducible refine (labels_value.calls ((rd_T89 l0 x12_1).f1) t106 _ ?side1 A8.out).mono ?_); (case side1 => first | exact HT.out | exact tabs_below HT.out (by repeat (first | (with_reducible first | exact HB.out | apply below_alloc | apply pw_below_drewN | apply below_drew1 | refine below_set ?_ GE104.out) | exact HB.out))); rintro e w36 ⟨rfl, hb⟩; have n0_ := Aside0.mk (blk_below (g := gb104) (o := .cells #[.string ((rd_T89 l0 x12_1).f0), .string ((rd_T89 l0 x12_1).f1)] 89 (0, 0)) (by (with_reducible repeat (first | refine blk_drewN ?_ _ | refine blk_drew ?_ | refine blk_alloc ?_ _)); exact BK104.out) hb); have n1_ := Aside0.mk (below_step (by repeat (first | (with_reducible first | exact HB.out | apply below_alloc | apply pw_below_drewN | apply below_drew1 | refine below_set ?_ GE104.out) | exact HB.out)) hb); clear BK104; clear HB; have BK104 := n0_; have HB := n1_; clear n0_ n1_; (try clear hb); (try clear hb2); (try clear hk); (try clear hi)))
                  repeat (go_quiet (first | ((with_reducible refine gate_dst (N := 5) rfl ?_); refine box_event ?hg (N := 5) ?hd (cs := #[.string (⟨#[]⟩ : ByteArray), .string (⟨#[]⟩ : ByteArray)]) (t := 89) ?hr ?_; (case hd => rfl); (case hg => rfl); (case hr => first | (go_simp; done) | (go_simp; rfl)); intro gb104 hg w32 hbox hb; have n0_ := Aside0.mk (below_step (by repeat (first | (with_reducible first | exact HB.out | apply below_alloc | apply pw_below_drewN | apply below_drew1) | exact HB.out)) hb); have n1_ := Aside0.mk (hbox); have n2_ := Aside0.mk ((by rw [hg]; exact (below_size (by repeat (first | (with_reducible first | exact HB.out | apply below_alloc | apply pw_below_drewN | apply below_drew1) | exact HB.out))) : w.heap.size ≤ gb104)); have n3_ := Aside0.mk ((by rw [hg]; exact (below_size (by repeat (first | (with_reducible first | exact HB.out | apply below_alloc | apply pw_below_drewN | apply below_drew1) | exact HB.out))) : w.heap.size ≤ gb104)); clear HB; have HB := n0_; have BK104 := n1_; have GW104 := n2_; have GE104 := n3_; clear n0_ n1_ n2_ n3_; clear hb hbox hg; have hcz33_0 : w32.cell? ⟨gb104, 0, none⟩ = some (.string (⟨#[]⟩ : ByteArray)) := (blk_cell BK104.out 0).trans rfl; have hcz33_1 : w32.cell? ⟨gb104, 1, none⟩ = some (.string (⟨#[]⟩ : ByteArray)) := (blk_cell BK104.out 1).trans rfl; have hfz33_0 := blk_frozen BK104.out 0; have hfz33_1 := blk_frozen BK104.out 1) | (go_at_call 99; (with_reducible refine (labels_Name.calls ((rd_T89 l0 x12_1).f0) true _ A6.out).mono ?_); rintro e w34 ⟨rfl, hb⟩; have n0_ := Aside0.mk (blk_below (g := gb104) (o := .cells #[.string ((rd_T89 l0 x12_1).f0), .string ((rd_T89 l0 x12_1).f1)] 89 (0, 0)) (by (with_reducible repeat (first | refine blk_drewN ?_ _ | refine blk_drew ?_ | refine blk_alloc ?_ _)); refine blk_put (cs := #[.string ((rd_T89 l0 x12_1).f0), .string (⟨#[]⟩ : ByteArray)]) ?_ 1 _ rfl; (with_reducible repeat (first | refine blk_drewN ?_ _ | refine blk_drew ?_ | refine blk_alloc ?_ _)); refine blk_put (cs := #[.string (⟨#[]⟩ : ByteArray), .string (⟨#[]⟩ : ByteArray)]) ?_ 0 _ rfl; (with_reducible repeat (first | refine blk_drewN ?_ _ | refine blk_drew ?_ | refine blk_alloc ?_ _)); exact BK104.out) hb); have n1_ := Aside0.mk (below_step (by repeat (first | (with_reducible first | exact HB.out | apply below_alloc | apply pw_below_drewN | apply below_drew1 | refine below_set ?_ GE104.out) | exact HB.out)) hb); clear BK104; clear HB; have BK104 := n0_; have HB := n1_; clear n0_ n1_; (try clear hb); (try clear hb2); (try clear hk); (try clear hi); have hcz35_0 : w34.cell? ⟨gb104, 0, none⟩ = some (.string ((rd_T89 l0 x12_1).f0)) := (blk_cell BK104.out 0).trans rfl; have hcz35_1 : w34.cell? ⟨gb104, 1, none⟩ = some (.string ((rd_T89 l0 x12_1).f1)) := (blk_cell BK104.out 1).trans rfl; have hfz35_0 := blk_frozen BK104.out 0; have hfz35_1 := blk_frozen BK104.out 1) | (go_at_call 125; (with_reducible refine (labels_value.calls ((rd_T89 l0 x12_1).f1) t106 _ ?side1 A8.out).mono ?_); (case side1 => first | exact HT.out | exact tabs_below HT.out (by repeat (first | (with_reducible first | exact HB.out | apply below_alloc | apply pw_below_drewN | apply below_drew1 | refine below_set ?_ GE104.out) | exact HB.out))); rintro e w36 ⟨rfl, hb⟩; have n0_ := Aside0.mk (blk_below (g := gb104) (o := .cells #[.string ((rd_T89 l0 x12_1).f0), .string ((rd_T89 l0 x12_1).f1)] 89 (0, 0)) (by (with_reducible repeat (first | refine blk_drewN ?_ _ | refine blk_drew ?_ | refine blk_alloc ?_ _)); exact BK104.out) hb); have n1_ := Aside0.mk (below_step (by repeat (first | (with_reducible first | exact HB.out | apply below_alloc | apply pw_below_drewN | apply below_drew1 | refine below_set ?_ GE104.out) | exact HB.out)) hb); clear BK104; clear HB; have BK104 := n0_; have HB := n1_; clear n0_ n1_; (try clear hb); (try clear hb2); (try clear hk); (try clear hi))); try go_wp2_with (first | ((with_reducible refine gate_dst (N := 5) rfl ?_); refine box_event ?hg (N := 5) ?hd (cs := #[.string (⟨#[]⟩ : ByteArray), .string (⟨#[]⟩ : ByteArray)]) (t := 89) ?hr ?_; (case hd => rfl); (case hg => rfl); (case hr => first | (go_simp; done) | (go_simp; rfl)); intro gb104 hg w32 hbox hb; have n0_ := Aside0.mk (below_step (by repeat (first | (with_reducible first | exact HB.out | apply below_alloc | apply pw_below_drewN | apply below_drew1) | exact HB.out)) hb); have n1_ := Aside0.mk (hbox); have n2_ := Aside0.mk ((by rw [hg]; exact (below_size (by repeat (first | (with_reducible first | exact HB.out | apply below_alloc | apply pw_below_drewN | apply below_drew1) | exact HB.out))) : w.heap.size ≤ gb104)); have n3_ := Aside0.mk ((by rw [hg]; exact (below_size (by repeat (first | (with_reducible first | exact HB.out | apply below_alloc | apply pw_below_drewN | apply below_drew1) | exact HB.out))) : w.heap.size ≤ gb104)); clear HB; have HB := n0_; have BK104 := n1_; have GW104 := n2_; have GE104 := n3_; clear n0_ n1_ n2_ n3_; clear hb hbox hg; have hcz33_0 : w32.cell? ⟨gb104, 0, none⟩ = some (.string (⟨#[]⟩ : ByteArray)) := (blk_cell BK104.out 0).trans rfl; have hcz33_1 : w32.cell? ⟨gb104, 1, none⟩ = some (.string (⟨#[]⟩ : ByteArray)) := (blk_cell BK104.out 1).trans rfl; have hfz33_0 := blk_frozen BK104.out 0; have hfz33_1 := blk_frozen BK104.out 1) | (go_at_call 99; (with_reducible refine (labels_Name.calls ((rd_T89 l0 x12_1).f0) true _ A6.out).mono ?_); rintro e w34 ⟨rfl, hb⟩; have n0_ := Aside0.mk (blk_below (g := gb104) (o := .cells #[.string ((rd_T89 l0 x12_1).f0), .string ((rd_T89 l0 x12_1).f1)] 89 (0, 0)) (by (with_reducible repeat (first | refine blk_drewN ?_ _ | refine blk_drew ?_ | refine blk_alloc ?_ _)); refine blk_put (cs := #[.string ((rd_T89 l0 x12_1).f0), .string (⟨#[]⟩ : ByteArray)]) ?_ 1 _ rfl; (with_reducible repeat (first | refine blk_drewN ?_ _ | refine blk_drew ?_ | refine blk_alloc ?_ _)); refine blk_put (cs := #[.string (⟨#[]⟩ : ByteArray), .string (⟨#[]⟩ : ByteArray)]) ?_ 0 _ rfl; (with_reducible repeat (first | refine blk_drewN ?_ _ | refine blk_drew ?_ | refine blk_alloc ?_ _)); exact BK104.out) hb); have n1_ := Aside0.mk (below_step (by repeat (first | (with_reducible first | exact HB.out | apply below_alloc | apply pw_below_drewN | apply below_drew1 | refine below_set ?_ GE104.out) | exact HB.out)) hb); clear BK104; clear HB; have BK104 := n0_; have HB := n1_; clear n0_ n1_; (try clear hb); (try clear hb2); (try clear hk); (try clear hi); have hcz35_0 : w34.cell? ⟨gb104, 0, none⟩ = some (.string ((rd_T89 l0 x12_1).f0)) := (blk_cell BK104.out 0).trans rfl; have hcz35_1 : w34.cell? ⟨gb104, 1, none⟩ = some (.string ((rd_T89 l0 x12_1).f1)) := (blk_cell BK104.out 1).trans rfl; have hfz35_0 := blk_frozen BK104.out 0; have hfz35_1 := blk_frozen BK104.out 1) | (go_at_call 125; (with_reducible refine (labels_value.calls ((rd_T89 l0 x12_1).f1) t106 _ ?side1 A8.out).mono ?_); (case side1 => first | exact HT.out | exact tabs_below HT.out (by repeat (first | (with_reducible first | exact HB.out | apply below_alloc | apply pw_below_drewN | apply below_drew1 | refine below_set ?_ GE104.out) | exact HB.out))); rintro e w36 ⟨rfl, hb⟩; have n0_ := Aside0.mk (blk_below (g := gb104) (o := .cells #[.string ((rd_T89 l0 x12_1).f0), .string ((rd_T89 l0 x12_1).f1)] 89 (0, 0)) (by (with_reducible repeat (first | refine blk_drewN ?_ _ | refine blk_drew ?_ | refine blk_alloc ?_ _)); exact BK104.out) hb); have n1_ := Aside0.mk (below_step (by repeat (first | (with_reducible first | exact HB.out | apply below_alloc | apply pw_below_drewN | apply below_drew1 | refine below_set ?_ GE104.out) | exact HB.out)) hb); clear BK104; clear HB; have BK104 := n0_; have HB := n1_; clear n0_ n1_; (try clear hb); (try clear hb2); (try clear hk); (try clear hi))))
                  go_ret2
                  exact ⟨by first | rfl | (simp [errW_none, errW_some] <;> rfl) | (simp [*, errW_none, errW_some] <;> rfl), by repeat (first | (with_reducible first | exact HB.out | apply below_alloc | apply pw_below_drewN | apply below_drew1 | refine below_set ?_ GE104.out) | exact HB.out)⟩
              · replace c7 := Bool.eq_false_iff.mpr c7
                subst c7
                have H1 : (some (40, x12_1)) = some (r1, r2) := by rw [if_neg (show ¬ (false = true) by decide)] at H; exact H
                clear H
                have H := H1
                clear H1
                simp only [Option.some.injEq, Prod.mk.injEq] at H
                obtain ⟨rfl, rfl⟩ := H
                have p103 : 0 ≤ (x12_1 : Int) := of_decide_eq_true (by first | (with_reducible assumption) | assumption)
                have q103 : x12_1 < (l0.length : Int) := of_decide_eq_true (by first | (with_reducible assumption) | assumption)
                obtain ⟨ad103, e103, hx103_0, hx103_1⟩ := at_T89 HR0.out x12_1 p103 q103
                cases e103
                replace hx103_0 := (HB.out.cell (World.block_lt_of_cell? w _ hx103_0)).trans hx103_0
                replace hx103_1 := (HB.out.cell (World.block_lt_of_cell? w _ hx103_1)).trans hx103_1
                replace p103 := eq_true p103
                replace q103 := eq_true q103
                go_wp2_with (first | ((with_reducible refine gate_dst (N := 5) rfl ?_); refine box_event ?hg (N := 5) ?hd (cs := #[.string (⟨#[]⟩ : ByteArray), .string (⟨#[]⟩ : ByteArray)]) (t := 89) ?hr ?_; (case hd => rfl); (case hg => rfl); (case hr => first | (go_simp; done) | (go_simp; rfl)); intro gb104 hg w37 hbox hb; have n0_ := Aside0.mk (below_step (by repeat (first | (with_reducible first | exact HB.out | apply below_alloc | apply pw_below_drewN | apply below_drew1) | exact HB.out)) hb); have n1_ := Aside0.mk (hbox); have n2_ := Aside0.mk ((by rw [hg]; exact (below_size (by repeat (first | (with_reducible first | exact HB.out | apply below_alloc | apply pw_below_drewN | apply below_drew1) | exact HB.out))) : w.heap.size ≤ gb104)); have n3_ := Aside0.mk ((by rw [hg]; exact (below_size (by repeat (first | (with_reducible first | exact HB.out | apply below_alloc | apply pw_below_drewN | apply below_drew1) | exact HB.out))) : w.heap.size ≤ gb104)); clear HB; have HB := n0_; have BK104 := n1_; have GW104 := n2_; have GE104 := n3_; clear n0_ n1_ n2_ n3_; clear hb hbox hg; have hcz38_0 : w37.cell? ⟨gb104, 0, none⟩ = some (.string (⟨#[]⟩ : ByteArray)) := (blk_cell BK104.out 0).trans rfl; have hcz38_1 : w37.cell? ⟨gb104, 1, none⟩ = some (.string (⟨#[]⟩ : ByteArray)) := (blk_cell BK104.out 1).trans rfl; have hfz38_0 := blk_frozen BK104.out 0; have hfz38_1 := blk_frozen BK104.out 1) | (go_at_call 99; (with_reducible refine (labels_Name.calls ((rd_T89 l0 x12_1).f0) false _ A6.out).mono ?_); rintro e w39 ⟨rfl, hb⟩; have n0_ := Aside0.mk (blk_below (g := gb104) (o := .cells #[.string ((rd_T89 l0 x12_1).f0), .string ((rd_T89 l0 x12_1).f1)] 89 (0, 0)) (by (with_reducible repeat (first | refine blk_drewN ?_ _ | refine blk_drew ?_ | refine blk_alloc ?_ _)); refine blk_put (cs := #[.string ((rd_T89 l0 x12_1).f0), .string (⟨#[]⟩ : ByteArray)]) ?_ 1 _ rfl; (with_reducible repeat (first | refine blk_drewN ?_ _ | refine blk_drew ?_ | refine blk_alloc ?_ _)); refine blk_put (cs := #[.string (⟨#[]⟩ : ByteArray), .string (⟨#[]⟩ : ByteArray)]) ?_ 0 _ rfl; (with_reducible repeat (first | refine blk_drewN ?_ _ | refine blk_drew ?_ | refine blk_alloc ?_ _)); exact BK104.out) hb); have n1_ := Aside0.mk (below_step (by repeat (first | (with_reducible first | exact HB.out | apply below_alloc | apply pw_below_drewN | apply below_drew1 | refine below_set ?_ GE104.out) | exact HB.out)) hb); clear BK104; clear HB; have BK104 := n0_; have HB := n1_; clear n0_ n1_; (try clear hb); (try clear hb2); (try clear hk); (try clear hi)))
                repeat (go_quiet (first | ((with_reducible refine gate_dst (N := 5) rfl ?_); refine box_event ?hg (N := 5) ?hd (cs := #[.string (⟨#[]⟩ : ByteArray), .string (⟨#[]⟩ : ByteArray)]) (t := 89) ?hr ?_; (case hd => rfl); (case hg => rfl); (case hr => first | (go_simp; done) | (go_simp; rfl)); intro gb104 hg w37 hbox hb; have n0_ := Aside0.mk (below_step (by repeat (first | (with_reducible first | exact HB.out | apply below_alloc | apply pw_below_drewN | apply below_drew1) | exact HB.out)) hb); have n1_ := Aside0.mk (hbox); have n2_ := Aside0.mk ((by rw [hg]; exact (below_size (by repeat (first | (with_reducible first | exact HB.out | apply below_alloc | apply pw_below_drewN | apply below_drew1) | exact HB.out))) : w.heap.size ≤ gb104)); have n3_ := Aside0.mk ((by rw [hg]; exact (below_size (by repeat (first | (with_reducible first | exact HB.out | apply below_alloc | apply pw_below_drewN | apply below_drew1) | exact HB.out))) : w.heap.size ≤ gb104)); clear HB; have HB := n0_; have BK104 := n1_; have GW104 := n2_; have GE104 := n3_; clear n0_ n1_ n2_ n3_; clear hb hbox hg; have hcz38_0 : w37.cell? ⟨gb104, 0, none⟩ = some (.string (⟨#[]⟩ : ByteArray)) := (blk_cell BK104.out 0).trans rfl; have hcz38_1 : w37.cell? ⟨gb104, 1, none⟩ = some (.string (⟨#[]⟩ : ByteArray)) := (blk_cell BK104.out 1).trans rfl; have hfz38_0 := blk_frozen BK104.out 0; have hfz38_1 := blk_frozen BK104.out 1) | (go_at_call 99; (with_reducible refine (labels_Name.calls ((rd_T89 l0 x12_1).f0) false _ A6.out).mono ?_); rintro e w39 ⟨rfl, hb⟩; have n0_ := Aside0.mk (blk_below (g := gb104) (o := .cells #[.string ((rd_T89 l0 x12_1).f0), .string ((rd_T89 l0 x12_1).f1)] 89 (0, 0)) (by (with_reducible repeat (first | refine blk_drewN ?_ _ | refine blk_drew ?_ | refine blk_alloc ?_ _)); refine blk_put (cs := #[.string ((rd_T89 l0 x12_1).f0), .string (⟨#[]⟩ : ByteArray)]) ?_ 1 _ rfl; (with_reducible repeat (first | refine blk_drewN ?_ _ | refine blk_drew ?_ | refine blk_alloc ?_ _)); refine blk_put (cs := #[.string (⟨#[]⟩ : ByteArray), .string (⟨#[]⟩ : ByteArray)]) ?_ 0 _ rfl; (with_reducible repeat (first | refine blk_drewN ?_ _ | refine blk_drew ?_ | refine blk_alloc ?_ _)); exact BK104.out) hb); have n1_ := Aside0.mk (below_step (by repeat (first | (with_reducible first | exact HB.out | apply below_alloc | apply pw_below_drewN | apply below_drew1 | refine below_set ?_ GE104.out) | exact HB.out)) hb); clear BK104; clear HB; have BK104 := n0_; have HB := n1_; clear n0_ n1_; (try clear hb); (try clear hb2); (try clear hk); (try clear hi))); try go_wp2_with (first | ((with_reducible refine gate_dst (N := 5) rfl ?_); refine box_event ?hg (N := 5) ?hd (cs := #[.string (⟨#[]⟩ : ByteArray), .string (⟨#[]⟩ : ByteArray)]) (t := 89) ?hr ?_; (case hd => rfl); (case hg => rfl); (case hr => first | (go_simp; done) | (go_simp; rfl)); intro gb104 hg w37 hbox hb; have n0_ := Aside0.mk (below_step (by repeat (first | (with_reducible first | exact HB.out | apply below_alloc | apply pw_below_drewN | apply below_drew1) | exact HB.out)) hb); have n1_ := Aside0.mk (hbox); have n2_ := Aside0.mk ((by rw [hg]; exact (below_size (by repeat (first | (with_reducible first | exact HB.out | apply below_alloc | apply pw_below_drewN | apply below_drew1) | exact HB.out))) : w.heap.size ≤ gb104)); have n3_ := Aside0.mk ((by rw [hg]; exact (below_size (by repeat (first | (with_reducible first | exact HB.out | apply below_alloc | apply pw_below_drewN | apply below_drew1) | exact HB.out))) : w.heap.size ≤ gb104)); clear HB; have HB := n0_; have BK104 := n1_; have GW104 := n2_; have GE104 := n3_; clear n0_ n1_ n2_ n3_; clear hb hbox hg; have hcz38_0 : w37.cell? ⟨gb104, 0, none⟩ = some (.string (⟨#[]⟩ : ByteArray)) := (blk_cell BK104.out 0).trans rfl; have hcz38_1 : w37.cell? ⟨gb104, 1, none⟩ = some (.string (⟨#[]⟩ : ByteArray)) := (blk_cell BK104.out 1).trans rfl; have hfz38_0 := blk_frozen BK104.out 0; have hfz38_1 := blk_frozen BK104.out 1) | (go_at_call 99; (with_reducible refine (labels_Name.calls ((rd_T89 l0 x12_1).f0) false _ A6.out).mono ?_); rintro e w39 ⟨rfl, hb⟩; have n0_ := Aside0.mk (blk_below (g := gb104) (o := .cells #[.string ((rd_T89 l0 x12_1).f0), .string ((rd_T89 l0 x12_1).f1)] 89 (0, 0)) (by (with_reducible repeat (first | refine blk_drewN ?_ _ | refine blk_drew ?_ | refine blk_alloc ?_ _)); refine blk_put (cs := #[.string ((rd_T89 l0 x12_1).f0), .string (⟨#[]⟩ : ByteArray)]) ?_ 1 _ rfl; (with_reducible repeat (first | refine blk_drewN ?_ _ | refine blk_drew ?_ | refine blk_alloc ?_ _)); refine blk_put (cs := #[.string (⟨#[]⟩ : ByteArray), .string (⟨#[]⟩ : ByteArray)]) ?_ 0 _ rfl; (with_reducible repeat (first | refine blk_drewN ?_ _ | refine blk_drew ?_ | refine blk_alloc ?_ _)); exact BK104.out) hb); have n1_ := Aside0.mk (below_step (by repeat (first | (with_reducible first | exact HB.out | apply below_alloc | apply pw_below_drewN | apply below_drew1 | refine below_set ?_ GE104.out) | exact HB.out)) hb); clear BK104; clear HB; have BK104 := n0_; have HB := n1_; clear n0_ n1_; (try clear hb); (try clear hb2); (try clear hk); (try clear hi))))
                go_ret2
                exact ⟨by first | rfl | (simp [errW_none, errW_some] <;> rfl) | (simp [*, errW_none, errW_some] <;> rfl), by repeat (first | (with_reducible first | exact HB.out | apply below_alloc | apply pw_below_drewN | apply below_drew1 | refine below_set ?_ GE104.out) | exact HB.out)⟩
            · rw [if_neg c5] at H
              exact absurd H (by simp)
          · rw [if_neg c4] at H
            exact absurd H (by simp)
        · rw [if_neg c3] at H
          have c3b0 : decide (x12_1 < (l0.length : Int)) = false := decide_eq_false c3
          clear c3
          simp only [Option.some.injEq, Prod.mk.injEq] at H
          obtain ⟨rfl, rfl⟩ := H
          go_wp2
          repeat (go_quiet (fail); try go_wp2)
          go_ret2
          exact ⟨by first | rfl | (simp [errW_none, errW_some] <;> rfl) | (simp [*, errW_none, errW_some] <;> rfl), by repeat (first | (with_reducible first | exact HB.out | apply below_alloc | apply pw_below_drewN | apply below_drew1) | exact HB.out)⟩

def labels_right.f (k : Nat) (l0 : List (S89)) : Option (Int) := (labels_Right.f k l0).bind fun bt108 => (some bt108.1)
theorem labels_right.mono : ∀ a0 k, LeO (labels_right.f k a0) (labels_right.f (k + 1) a0) := by
  intro a0 k
  unfold labels_right.f
  repeat' first
      | (with_reducible exact labels_Right.mono _ _)
      | (with_reducible exact LeO.refl _)
      | (with_reducible exact LeO.none _)
      | (with_reducible refine LeO.ite ?_ ?_)
      | (with_reducible refine LeO.bind ?_ (fun _ => ?_))
      | exact labels_Right.mono _ _
      | exact LeO.none _
      | refine LeO.ite ?_ ?_
      | refine LeO.bind ?_ (fun _ => ?_)
set_option maxHeartbeats 8000000 in
set_option maxRecDepth 100000 in
theorem labels_right.calls (k : Nat) (A0 : Option Addr) (c0 : Nat) (l0 : List (S89)) (r : Int) (w : World) (hr0 : Kd.C k89 w A0 l0.length l0) (hc0 : l0.length ≤ c0) (hT : Tabs w) (h : labels_right.f k l0 = some r) :
    Calls Tryz.prog 142 #[.slice A0 l0.length c0] w fun e w' => e = .returned (.int .i64 r) ∧ Below w.heap.size w w' := by
  have HR0 := Aside0.mk hr0
  have HC0 := Aside0.mk hc0
  clear hr0 hc0
  have HT := Aside0.mk hT
  clear hT
  have HB := Aside0.mk (Below.refl w.heap.size w)
  have H : ((labels_Right.f k l0).bind fun bt108 => (some bt108.1)) = some r := h
  clear h
  replace H := Option.bind_eq_some_iff.mp H
  obtain ⟨⟨t108, t109⟩, A20, H⟩ := H
  replace H : (some t108) = some r := H
  have A2 := Aside0.mk A20
  clear A20
  obtain rfl := Option.some.inj H
  go_enter Tryz.func142, Tryz.ntmps142
  go_wp2_with (first | ((with_reducible refine gate_callee (f := 73) rfl ?_); refine goesL_ (some 7) rfl rfl Tryz.func73 (by kernel_rfl) rfl #[.slice A0 l0.length c0] rfl (by (try simp only [List.map_toArray, List.map_cons, List.map_nil]); first | done | rfl | (simp only [List.length_drop, List.length_take]; rfl)) ?_; (with_reducible refine (labels_Right.calls k _ _ l0 t108 t109 _ ?side1 ?side2 ?side3 A2.out).mono ?_); (case side1 => repeat (first | exact HR0.out | (with_reducible refine Kd.C_alloc ?_ _) | (with_reducible refine Kd.C_drewN ?_ _) | (with_reducible refine Kd.C_drew ?_))); (case side2 => exact HC0.out); (case side3 => first | exact HT.out | exact tabs_below HT.out (by repeat (first | (with_reducible first | exact HB.out | apply below_alloc | apply pw_below_drewN | apply below_drew1) | exact HB.out))); rintro e w3 ⟨rfl, hb⟩; refine ⟨_, rfl, ?_⟩; have n0_ := Aside0.mk (below_step (by repeat (first | (with_reducible first | exact HB.out | apply below_alloc | apply pw_below_drewN | apply below_drew1) | exact HB.out)) hb); clear HB; have HB := n0_; clear n0_; (try clear hb); (try clear hb2); (try clear hk); (try clear hi)))
  go_ret
  exact ⟨by first | rfl | (simp [errW_none, errW_some] <;> rfl) | (simp [*, errW_none, errW_some] <;> rfl), by repeat (first | (with_reducible first | exact HB.out | apply below_alloc | apply pw_below_drewN | apply below_drew1) | exact HB.out)⟩

def labels_Keep.f (k : Nat) (l0 : List (S89)) (l1 : List ByteArray) : Option ((List (S89)) × Int) := (labels_right.f k l0).bind fun t110 => (if t110 = 0 then ((labels_pick.f k l0 true l1).bind fun t111 => (some (t111, 0))) else (some (([] : List (S89)), t110)))
theorem labels_Keep.mono : ∀ a0 a1 k, LeO (labels_Keep.f k a0 a1) (labels_Keep.f (k + 1) a0 a1) := by
  intro a0 a1 k
  unfold labels_Keep.f
  repeat' first
      | (with_reducible exact labels_pick.mono _ _ _ _)
      | (with_reducible exact labels_right.mono _ _)
      | (with_reducible exact LeO.refl _)
      | (with_reducible exact LeO.none _)
      | (with_reducible refine LeO.ite ?_ ?_)
      | (with_reducible refine LeO.bind ?_ (fun _ => ?_))
      | exact labels_pick.mono _ _ _ _
      | exact labels_right.mono _ _
      | exact LeO.none _
      | refine LeO.ite ?_ ?_
      | refine LeO.bind ?_ (fun _ => ?_)
set_option maxHeartbeats 8000000 in
set_option maxRecDepth 100000 in
theorem labels_Keep.calls (k : Nat) (A0 : Option Addr) (c0 : Nat) (l0 : List (S89)) (A1 : Option Addr) (c1 : Nat) (l1 : List ByteArray) (r1 : List (S89)) (r2 : Int) (w : World) (hr0 : Kd.C k89 w A0 l0.length l0) (hc0 : l0.length ≤ c0) (hr1 : Kd.C Kd.string w A1 l1.length l1) (hc1 : l1.length ≤ c1) (hT : Tabs w) (h : labels_Keep.f k l0 l1 = some (r1, r2)) :
    Calls Tryz.prog 107 #[.slice A0 l0.length c0, .slice A1 l1.length c1] w fun e w' => ∃ v0_ : Value, e = .returned (.tuple #[v0_, .int .i64 r2]) ∧ Kd.R k89 89 w' w.heap.size (fun _ => True) v0_ r1 ∧ Below w.heap.size w w' := by
  have HR0 := Aside0.mk hr0
  have HC0 := Aside0.mk hc0
  clear hr0 hc0
  have HR1 := Aside0.mk hr1
  have HC1 := Aside0.mk hc1
  clear hr1 hc1
  have HT := Aside0.mk hT
  clear hT
  have HB := Aside0.mk (Below.refl w.heap.size w)
  have H : ((labels_right.f k l0).bind fun t110 => (if t110 = 0 then ((labels_pick.f k l0 true l1).bind fun t111 => (some (t111, 0))) else (some (([] : List (S89)), t110)))) = some (r1, r2) := h
  clear h
  replace H := Option.bind_eq_some_iff.mp H
  obtain ⟨t110, A30, H⟩ := H
  replace H : (if t110 = 0 then ((labels_pick.f k l0 true l1).bind fun t111 => (some (t111, 0))) else (some (([] : List (S89)), t110))) = some (r1, r2) := H
  have A3 := Aside0.mk A30
  clear A30
  by_cases c4 : t110 = 0
  · rw [if_pos c4] at H
    have c4b0 : (t110 == 0) = true := beq_iff_eq.mpr c4
    have c4b1 : (t110 != 0) = false := bne_eq_false_iff_eq.mpr c4
    clear c4
    replace H := Option.bind_eq_some_iff.mp H
    obtain ⟨t111, A50, H⟩ := H
    replace H : (some (t111, 0)) = some (r1, r2) := H
    have A5 := Aside0.mk A50
    clear A50
    simp only [Option.some.injEq, Prod.mk.injEq] at H
    obtain ⟨rfl, rfl⟩ := H
    go_enter Tryz.func107, Tryz.ntmps107
    go_wp2_with (first | ((with_reducible refine gate_callee (f := 142) rfl ?_); refine goesL_ (some 8) rfl rfl Tryz.func142 (by kernel_rfl) rfl #[.slice A0 l0.length c0] rfl (by (try simp only [List.map_toArray, List.map_cons, List.map_nil]); first | done | rfl | (simp only [List.length_drop, List.length_take]; rfl)) ?_; (with_reducible refine (labels_right.calls k _ _ l0 t110 _ ?side1 ?side2 ?side3 A3.out).mono ?_); (case side1 => repeat (first | exact HR0.out | (with_reducible refine Kd.C_alloc ?_ _) | (with_reducible refine Kd.C_drewN ?_ _) | (with_reducible refine Kd.C_drew ?_))); (case side2 => exact HC0.out); (case side3 => first | exact HT.out | exact tabs_below HT.out (by repeat (first | (with_reducible first | exact HB.out | apply below_alloc | apply pw_below_drewN | apply below_drew1) | exact HB.out))); rintro e w6 ⟨rfl, hb⟩; refine ⟨_, rfl, ?_⟩; have n0_ := Aside0.mk (below_step (by repeat (first | (with_reducible first | exact HB.out | apply below_alloc | apply pw_below_drewN | apply below_drew1) | exact HB.out)) hb); clear HB; have HB := n0_; clear n0_; (try clear hb); (try clear hb2); (try clear hk); (try clear hi)) | ((with_reducible refine gate_callee (f := 151) rfl ?_); refine goesL_ (some 14) rfl rfl Tryz.func151 (by kernel_rfl) rfl #[.slice A0 l0.length c0, .bool true, .slice A1 l1.length c1] rfl (by (try simp only [List.map_toArray, List.map_cons, List.map_nil]); first | done | rfl | (simp only [List.length_drop, List.length_take]; rfl)) ?_; (with_reducible refine (labels_pick.calls k _ _ l0 true _ _ l1 t111 _ ?side1 ?side2 ?side3 ?side4 A5.out).mono ?_); (case side1 => repeat (first | exact (Kd.C_below HR0.out HB.out) | (with_reducible refine Kd.C_alloc ?_ _) | (with_reducible refine Kd.C_drewN ?_ _) | (with_reducible refine Kd.C_drew ?_))); (case side2 => exact HC0.out); (case side3 => repeat (first | exact (Kd.C_below HR1.out HB.out) | (with_reducible refine Kd.C_alloc ?_ _) | (with_reducible refine Kd.C_drewN ?_ _) | (with_reducible refine Kd.C_drew ?_))); (case side4 => exact HC1.out); rintro e w7 ⟨v112, rfl, ho0, hb⟩; refine ⟨_, rfl, ?_⟩; have n0_ := Aside0.mk (Kd.R_lower ho0 (below_size (by repeat (first | (with_reducible first | exact HB.out | apply below_alloc | apply pw_below_drewN | apply below_drew1) | exact HB.out)))); have n1_ := Aside0.mk (below_step (by repeat (first | (with_reducible first | exact HB.out | apply below_alloc | apply pw_below_drewN | apply below_drew1) | exact HB.out)) hb); clear HB; have HO113 := n0_; have HB := n1_; clear n0_ n1_; (try clear hb); (try clear hb2); (try clear hk); (try clear hi); (try clear ho0)))
    go_ret2
    exact ⟨_, by first | rfl | (simp [errW_none, errW_some] <;> rfl) | (simp [*, errW_none, errW_some] <;> rfl), by (with_reducible repeat (first | apply Kd.R_alloc | apply Kd.R_drewN | apply Kd.R_drew)); exact HO113.out, by repeat (first | (with_reducible first | exact HB.out | apply below_alloc | apply pw_below_drewN | apply below_drew1) | exact HB.out)⟩
  · rw [if_neg c4] at H
    have c4b0 : (t110 == 0) = false := beq_eq_false_iff_ne.mpr c4
    have c4b1 : (t110 != 0) = true := bne_iff_ne.mpr c4
    simp only [Option.some.injEq, Prod.mk.injEq] at H
    obtain ⟨rfl, rfl⟩ := H
    go_enter Tryz.func107, Tryz.ntmps107
    go_wp2_with (first | ((with_reducible refine gate_callee (f := 142) rfl ?_); refine goesL_ (some 8) rfl rfl Tryz.func142 (by kernel_rfl) rfl #[.slice A0 l0.length c0] rfl (by (try simp only [List.map_toArray, List.map_cons, List.map_nil]); first | done | rfl | (simp only [List.length_drop, List.length_take]; rfl)) ?_; (with_reducible refine (labels_right.calls k _ _ l0 t110 _ ?side1 ?side2 ?side3 A3.out).mono ?_); (case side1 => repeat (first | exact HR0.out | (with_reducible refine Kd.C_alloc ?_ _) | (with_reducible refine Kd.C_drewN ?_ _) | (with_reducible refine Kd.C_drew ?_))); (case side2 => exact HC0.out); (case side3 => first | exact HT.out | exact tabs_below HT.out (by repeat (first | (with_reducible first | exact HB.out | apply below_alloc | apply pw_below_drewN | apply below_drew1) | exact HB.out))); rintro e w8 ⟨rfl, hb⟩; refine ⟨_, rfl, ?_⟩; have n0_ := Aside0.mk (below_step (by repeat (first | (with_reducible first | exact HB.out | apply below_alloc | apply pw_below_drewN | apply below_drew1) | exact HB.out)) hb); clear HB; have HB := n0_; clear n0_; (try clear hb); (try clear hb2); (try clear hk); (try clear hi)))
    go_ret2
    exact ⟨_, by first | rfl | (simp [errW_none, errW_some] <;> rfl) | (simp [*, errW_none, errW_some] <;> rfl), by first | exact Kd.R_nil _ _ _ _ _ | exact Kd.N_nil _ _ _ _ _ | exact Kd.V_nil _ _ _ _ _ | exact Kd.Q_nil _ _ _ _ _ | exact Kd.S_nil _ _ _ _ _, by repeat (first | (with_reducible first | exact HB.out | apply below_alloc | apply pw_below_drewN | apply below_drew1) | exact HB.out)⟩

end Go.Proofs.YtoncpeadbhgmaaaGreatDoor.G

namespace Go.Proofs.YtoncpeadbhgmaaaGreatDoor.G
open Go.RowKit Go.Proofs.YtoncpeadbhgmaaaGreatDoorW.PrintWords Go.Proofs.YtoncpeadbhgmaaaGreatDoorW.PrintLast Go.Proofs.YtoncpeadbhgmaaaGreatDoorW.PrintMore
attribute [local go_sem] max2_int min2_int max_two min_two max_three min_three max_four min_four   -- for this text's walks alone
set_option linter.unusedVariables false
set_option linter.unusedSimpArgs false

def labels_Put.l0 : Nat → List Int → List (S89) → Int → Int → Option (List Int × Int)
  | 0, _, _, _, _ => none
  | k + 1, x7, x20, x21, x22 => if x22 < x21 then (if 0 ≤ x22 then (if x22 < (x20.length : Int) then ((vint_PutText.f k x7 ((rd_T89 x20 x22).f0)).bind fun t146 => ((vint_PutText.f k t146 ((rd_T89 x20 x22).f1)).bind fun t149 => (labels_Put.l0 k t149 x20 x21 (wrap64 (x22 + 1))))) else (none)) else (none)) else (some (x7, 0))
def labels_Put.f (k : Nat) (l0 : List Int) (l1 : List (S89)) : Option (List Int × Int) := (labels_right.f k l1).bind fun t140 => (if t140 = 0 then ((vint_PutU.f k l0 (IntKind.u64.wrap ((l1.length : Int)))).bind fun t141 => (labels_Put.l0 k t141 l1 (l1.length : Int) 0)) else (some (([] : List Int), t140)))
theorem labels_Put.mono_l : ∀ k, (∀ y0 y1 y2 y3, LeO (labels_Put.l0 k y0 y1 y2 y3) (labels_Put.l0 (k + 1) y0 y1 y2 y3))
  | 0 => fun _ _ _ _ r h => by simp [labels_Put.l0] at h
  | k + 1 => by
    have ih0 := labels_Put.mono_l k
    · intro y0 y1 y2 y3
      unfold labels_Put.l0
      repeat' first
      | (with_reducible exact ih0 _ _ _ _)
      | (with_reducible exact labels_right.mono _ _)
      | (with_reducible exact vint_PutText.mono _ _ _)
      | (with_reducible exact vint_PutU.mono _ _ _)
      | (with_reducible exact LeO.refl _)
      | (with_reducible exact LeO.none _)
      | (with_reducible refine LeO.ite ?_ ?_)
      | (with_reducible refine LeO.bind ?_ (fun _ => ?_))
      | exact ih0 _ _ _ _
      | exact labels_right.mono _ _
      | exact vint_PutText.mono _ _ _
      | exact vint_PutU.mono _ _ _
      | exact LeO.none _
      | refine LeO.ite ?_ ?_
      | refine LeO.bind ?_ (fun _ => ?_)
theorem labels_Put.mono : ∀ a0 a1 k, LeO (labels_Put.f k a0 a1) (labels_Put.f (k + 1) a0 a1) := by
  intro a0 a1 k
  have ih0 := labels_Put.mono_l k
  unfold labels_Put.f
  repeat' first
      | (with_reducible exact ih0 _ _ _ _)
      | (with_reducible exact labels_right.mono _ _)
      | (with_reducible exact vint_PutText.mono _ _ _)
      | (with_reducible exact vint_PutU.mono _ _ _)
      | (with_reducible exact LeO.refl _)
      | (with_reducible exact LeO.none _)
      | (with_reducible refine LeO.ite ?_ ?_)
      | (with_reducible refine LeO.bind ?_ (fun _ => ?_))
      | exact ih0 _ _ _ _
      | exact labels_right.mono _ _
      | exact vint_PutText.mono _ _ _
      | exact vint_PutU.mono _ _ _
      | exact LeO.none _
      | refine LeO.ite ?_ ?_
      | refine LeO.bind ?_ (fun _ => ?_)
def labels_Put.T8 : Bool × List (List Nat × List Nat) := (true, [([], []), ([], []), ([1], [1]), ([0, 2], [0, 2]), ([], []), ([4], [4]), ([3, 5, 3], [3, 5]), ([6, 6, 0, 1, 2, 3, 4, 5, 6], [0, 6])])
def labels_Put.B8 : List Nat := [0, 0, 2, 7, 0, 16, 63, 127]
theorem labels_Put.tab8 : rtab .any (opsOf Tryz.f86 8) = labels_Put.T8 := by kernel_rfl
theorem labels_Put.bits8 : waitsOk labels_Put.T8.2 labels_Put.B8 = true := by kernel_rfl
set_option maxHeartbeats 8000000 in
set_option maxRecDepth 100000 in
theorem labels_Put.calls (k : Nat) (A0 : Option Addr) (c0 : Nat) (l0 : List Int) (A1 : Option Addr) (c1 : Nat) (l1 : List (S89)) (r1 : List Int) (r2 : Int) (w : World) (hr0 : Kd.C (Kd.int .u8) w A0 l0.length l0) (hc0 : l0.length ≤ c0) (hr1 : Kd.C k89 w A1 l1.length l1) (hc1 : l1.length ≤ c1) (hT : Tabs w) (h : labels_Put.f k l0 l1 = some (r1, r2)) :
    Calls Tryz.prog 86 #[.slice A0 l0.length c0, .slice A1 l1.length c1] w fun e w' => ∃ v0_ : Value, e = .returned (.tuple #[v0_, .int .i64 r2]) ∧ Kd.R (Kd.int .u8) 5 w' w.heap.size (fun _ => True) v0_ r1 ∧ Below w.heap.size w w' := by
  have hu89 := Tryz.underlying89
  have HR0 := Aside0.mk hr0
  have HC0 := Aside0.mk hc0
  clear hr0 hc0
  have HR1 := Aside0.mk hr1
  have HC1 := Aside0.mk hc1
  clear hr1 hc1
  have HT := Aside0.mk hT
  clear hT
  have HB := Aside0.mk (Below.refl w.heap.size w)
  have H : ((labels_right.f k l1).bind fun t140 => (if t140 = 0 then ((vint_PutU.f k l0 (IntKind.u64.wrap ((l1.length : Int)))).bind fun t141 => (labels_Put.l0 k t141 l1 (l1.length : Int) 0)) else (some (([] : List Int), t140)))) = some (r1, r2) := h
  clear h
  replace H := Option.bind_eq_some_iff.mp H
  obtain ⟨t140, A30, H⟩ := H
  replace H : (if t140 = 0 then ((vint_PutU.f k l0 (IntKind.u64.wrap ((l1.length : Int)))).bind fun t141 => (labels_Put.l0 k t141 l1 (l1.length : Int) 0)) else (some (([] : List Int), t140))) = some (r1, r2) := H
  have A3 := Aside0.mk A30
  clear A30
  by_cases c4 : t140 = 0
  · rw [if_pos c4] at H
    have c4b0 : (t140 == 0) = true := beq_iff_eq.mpr c4
    have c4b1 : (t140 != 0) = false := bne_eq_false_iff_eq.mpr c4
    clear c4
    replace H := Option.bind_eq_some_iff.mp H
    obtain ⟨t141, A50, H⟩ := H
    replace H : (labels_Put.l0 k t141 l1 (l1.length : Int) 0) = some (r1, r2) := H
    have A5 := Aside0.mk A50
    clear A50
    have H' := Aside0.mk H
    clear H
    go_enter Tryz.func86, Tryz.ntmps86
    go_wp2_with (first | ((with_reducible refine gate_callee (f := 142) rfl ?_); refine goesL_ (some 11) rfl rfl Tryz.func142 (by kernel_rfl) rfl #[.slice A1 l1.length c1] rfl (by (try simp only [List.map_toArray, List.map_cons, List.map_nil]); first | done | rfl | (simp only [List.length_drop, List.length_take]; rfl)) ?_; (with_reducible refine (labels_right.calls k _ _ l1 t140 _ ?side1 ?side2 ?side3 A3.out).mono ?_); (case side1 => repeat (first | exact HR1.out | (with_reducible refine Kd.C_alloc ?_ _) | (with_reducible refine Kd.C_drewN ?_ _) | (with_reducible refine Kd.C_drew ?_))); (case side2 => exact HC1.out); (case side3 => first | exact HT.out | exact tabs_below HT.out (by repeat (first | (with_reducible first | exact HB.out | apply below_alloc | apply pw_below_drewN | apply below_drew1) | exact HB.out))); rintro e w6 ⟨rfl, hb⟩; refine ⟨_, rfl, ?_⟩; have n0_ := Aside0.mk (below_step (by repeat (first | (with_reducible first | exact HB.out | apply below_alloc | apply pw_below_drewN | apply below_drew1) | exact HB.out)) hb); clear HB; have HB := n0_; clear n0_; (try clear hb); (try clear hb2); (try clear hk); (try clear hi)) | ((with_reducible refine gate_callee (f := 143) rfl ?_); refine goesL_ (some 19) rfl rfl Tryz.func143 (by kernel_rfl) rfl #[.slice A0 l0.length c0, .int .u64 (IntKind.u64.wrap ((l1.length : Int)))] rfl (by (try simp only [List.map_toArray, List.map_cons, List.map_nil]); first | done | rfl | (simp only [List.length_drop, List.length_take]; rfl)) ?_; (with_reducible refine (vint_PutU.calls k _ _ l0 (IntKind.u64.wrap ((l1.length : Int))) t141 _ ?side1 ?side2 A5.out).mono ?_); (case side1 => repeat (first | exact (Kd.C_below HR0.out HB.out) | (with_reducible refine Kd.C_alloc ?_ _) | (with_reducible refine Kd.C_drewN ?_ _) | (with_reducible refine Kd.C_drew ?_))); (case side2 => exact HC0.out); rintro e w7 ⟨v142, rfl, ho0, hb⟩; refine ⟨_, rfl, ?_⟩; have n0_ := Aside0.mk (Kd.R_lower ho0 (below_size (by repeat (first | (with_reducible first | exact HB.out | apply below_alloc | apply pw_below_drewN | apply below_drew1) | exact HB.out)))); have n1_ := Aside0.mk (below_step (by repeat (first | (with_reducible first | exact HB.out | apply below_alloc | apply pw_below_drewN | apply below_drew1) | exact HB.out)) hb); clear HB; have HO143 := n0_; have HB := n1_; clear n0_ n1_; (try clear hb); (try clear hb2); (try clear hk); (try clear hi); (try clear ho0)))
    go_loopg [7, 22] k (fun kq v7 v22 w' => ∃ (x7_1 : List Int) (x22_1 : Int), v22 = .int .i64 x22_1 ∧ Aside0 (labels_Put.l0 kq x7_1 l1 (l1.length : Int) x22_1 = some (r1, r2)) ∧ Aside0 (kq ≤ k) ∧ Aside0 (Kd.R (Kd.int .u8) 5 w' w.heap.size (fun _ => True) v7 x7_1) ∧ Aside0 (Below w.heap.size w w'))
    case atStart => exact ⟨(t141), (0), (by first | rfl | (simp; done) | (simp [*]; done)), H', ⟨Nat.le_refl _⟩, ⟨by (with_reducible repeat (first | apply Kd.R_alloc | apply Kd.R_drewN | apply Kd.R_drew)); exact HO143.out⟩, ⟨by repeat (first | (with_reducible first | exact HB.out | apply below_alloc | apply pw_below_drewN | apply below_drew1) | exact HB.out)⟩⟩
    case round =>
      clear H'
      try clear c1
      try clear p2
      try clear c4
      try clear c4b0
      try clear c4b1
      obtain ⟨x7_1, x22_1, rfl, HA, HK1, HO_7, HB⟩ := hrel
      cases gk with
      | zero => exact absurd HA.out (by simp [labels_Put.l0])
      | succ k1 =>
        have H := HA.out
        clear HA
        simp only [labels_Put.l0] at H
        by_cases c8 : x22_1 < (l1.length : Int)
        · rw [if_pos c8] at H
          have c8b0 : decide (x22_1 < (l1.length : Int)) = true := decide_eq_true c8
          clear c8
          by_cases c9 : 0 ≤ x22_1
          · rw [if_pos c9] at H
            have c9b0 : decide (0 ≤ x22_1) = true := decide_eq_true c9
            clear c9
            by_cases c10 : x22_1 < (l1.length : Int)
            · rw [if_pos c10] at H
              have c10b0 : decide (x22_1 < (l1.length : Int)) = true := decide_eq_true c10
              clear c10
              replace H := Option.bind_eq_some_iff.mp H
              obtain ⟨t146, A110, H⟩ := H
              replace H : ((vint_PutText.f k1 t146 ((rd_T89 l1 x22_1).f1)).bind fun t149 => (labels_Put.l0 k1 t149 l1 (l1.length : Int) (wrap64 (x22_1 + 1)))) = some (r1, r2) := H
              have A11 := Aside0.mk A110
              clear A110
              replace H := Option.bind_eq_some_iff.mp H
              obtain ⟨t149, A120, H⟩ := H
              replace H : (labels_Put.l0 k1 t149 l1 (l1.length : Int) (wrap64 (x22_1 + 1))) = some (r1, r2) := H
              have A12 := Aside0.mk A120
              clear A120
              have H' := Aside0.mk H
              clear H
              have p144 : 0 ≤ (x22_1 : Int) := of_decide_eq_true (by first | (with_reducible assumption) | assumption)
              have q144 : x22_1 < (l1.length : Int) := of_decide_eq_true (by first | (with_reducible assumption) | assumption)
              obtain ⟨ad144, e144, hx144_0, hx144_1⟩ := at_T89 HR1.out x22_1 p144 q144
              cases e144
              replace hx144_0 := (HB.out.cell (World.block_lt_of_cell? w _ hx144_0)).trans hx144_0
              replace hx144_1 := (HB.out.cell (World.block_lt_of_cell? w _ hx144_1)).trans hx144_1
              replace p144 := eq_true p144
              replace q144 := eq_true q144
              try go_wp2_with (first | ((with_reducible refine gate_dst (N := 9) rfl ?_); refine box_event ?hg (N := 9) ?hd (cs := #[.string (⟨#[]⟩ : ByteArray), .string (⟨#[]⟩ : ByteArray)]) (t := 89) ?hr ?_; (case hd => rfl); (case hg => rfl); (case hr => first | (go_simp; done) | (go_simp; rfl)); intro gb145 hg w13 hbox hb; have n0_ := Aside0.mk (Kd.R_below (by (with_reducible repeat (first | apply Kd.R_alloc | apply Kd.R_drewN | apply Kd.R_drew)); exact HO_7.out) hb); have n1_ := Aside0.mk (below_step (by repeat (first | (with_reducible first | exact HB.out | apply below_alloc | apply pw_below_drewN | apply below_drew1) | exact HB.out)) hb); have n2_ := Aside0.mk (hbox); have n3_ := Aside0.mk ((by rw [hg]; exact (below_size (by repeat (first | (with_reducible first | exact HB.out | apply below_alloc | apply pw_below_drewN | apply below_drew1) | exact HB.out))) : w.heap.size ≤ gb145)); have n4_ := Aside0.mk ((by rw [hg]; exact (below_size (by repeat (first | (with_reducible first | exact HB.out | apply below_alloc | apply pw_below_drewN | apply below_drew1) | exact HB.out))) : w.heap.size ≤ gb145)); clear HO_7; clear HB; have HO_7 := n0_; have HB := n1_; have BK145 := n2_; have GW145 := n3_; have GE145 := n4_; clear n0_ n1_ n2_ n3_ n4_; clear hb hbox hg; have hcz14_0 : w13.cell? ⟨gb145, 0, none⟩ = some (.string (⟨#[]⟩ : ByteArray)) := (blk_cell BK145.out 0).trans rfl; have hcz14_1 : w13.cell? ⟨gb145, 1, none⟩ = some (.string (⟨#[]⟩ : ByteArray)) := (blk_cell BK145.out 1).trans rfl; have hfz14_0 := blk_frozen BK145.out 0; have hfz14_1 := blk_frozen BK145.out 1))
              have n0_ : Aside0 (Kd.R (Kd.int .u8) 5 ((w13.setCell ⟨gb145, 0, none⟩ (.string ((rd_T89 l1 x22_1).f0))).setCell ⟨gb145, 1, none⟩ (.string ((rd_T89 l1 x22_1).f1))) w.heap.size (fun _ => True) u7 x7_1) := ⟨by (with_reducible repeat (first | apply Kd.R_alloc | apply Kd.R_drewN | apply Kd.R_drew)); exact Kd.R_mono (Kd.R_far (p := ⟨gb145, 1, none⟩) (Kd.R_far (p := ⟨gb145, 0, none⟩) (Kd.R_types HO_7.out BK145.out (by decide)) (fun _ hk => hk.2) (.string ((rd_T89 l1 x22_1).f0))) (fun _ hk => hk.2) (.string ((rd_T89 l1 x22_1).f1))) (fun _ hk => trivial)⟩
              have n1_ : Aside0 (((w13.setCell ⟨gb145, 0, none⟩ (.string ((rd_T89 l1 x22_1).f0))).setCell ⟨gb145, 1, none⟩ (.string ((rd_T89 l1 x22_1).f1))).heap[gb145]? = some (.cells #[.string ((rd_T89 l1 x22_1).f0), .string ((rd_T89 l1 x22_1).f1)] 89 (0, 0))) := ⟨by (with_reducible repeat (first | refine blk_drewN ?_ _ | refine blk_drew ?_ | refine blk_alloc ?_ _)); refine blk_put (cs := #[.string ((rd_T89 l1 x22_1).f0), .string (⟨#[]⟩ : ByteArray)]) ?_ 1 _ rfl; (with_reducible repeat (first | refine blk_drewN ?_ _ | refine blk_drew ?_ | refine blk_alloc ?_ _)); refine blk_put (cs := #[.string (⟨#[]⟩ : ByteArray), .string (⟨#[]⟩ : ByteArray)]) ?_ 0 _ rfl; (with_reducible repeat (first | refine blk_drewN ?_ _ | refine blk_drew ?_ | refine blk_alloc ?_ _)); exact BK145.out⟩
              have n2_ : Aside0 (Below w.heap.size w ((w13.setCell ⟨gb145, 0, none⟩ (.string ((rd_T89 l1 x22_1).f0))).setCell ⟨gb145, 1, none⟩ (.string ((rd_T89 l1 x22_1).f1)))) := ⟨by repeat (first | (with_reducible first | exact HB.out | apply below_alloc | apply pw_below_drewN | apply below_drew1 | refine below_set ?_ GE145.out) | exact HB.out)⟩
              (try clear HO_7)
              (try clear BK145)
              (try clear HB)
              generalize ((w13.setCell ⟨gb145, 0, none⟩ (.string ((rd_T89 l1 x22_1).f0))).setCell ⟨gb145, 1, none⟩ (.string ((rd_T89 l1 x22_1).f1))) = w15 at n0_ n1_ n2_ ⊢
              have HO_7 := n0_
              have BK145 := n1_
              have HB := n2_
              clear n0_ n1_ n2_
              have n0_ := Aside0.mk (Kd.R_drew HO_7.out)
              have n1_ := Aside0.mk (blk_drew BK145.out)
              have n2_ := Aside0.mk (below_drew1 HB.out)
              clear HO_7
              clear BK145
              clear HB
              have HO_7 := n0_
              have BK145 := n1_
              have HB := n2_
              clear n0_ n1_ n2_
              obtain ⟨Ao17, co17, eo17⟩ := Kd.R_slice HO_7.out
              (first | subst eo17 | (injection eo17 with f1_ f2_ f3_; have f4_ := f1_.symm; have f5_ := f3_.symm; clear f1_ f2_ f3_; subst f4_; subst f5_))
              refine start_ (n := 8) (S := fun w' => w'.cell? ⟨gb145, 0, none⟩ = some (.string ((rd_T89 l1 x22_1).f0)) ∧ w'.cell? ⟨gb145, 1, none⟩ = some (.string ((rd_T89 l1 x22_1).f1))) (ds := []) #[false, false, false, false, false, false, false, false] (by kernel_rfl) rfl rfl ⟨(blk_cell BK145.out 0).trans rfl, (blk_cell BK145.out 1).trans rfl⟩ (fun hHeld => ?_); refine with_tabW labels_Put.tab8 labels_Put.bits8 (fun HT_ HW_ => ?_)
              generalize w15.drew = w16 at HO_7 BK145 HB hHeld ⊢
              refine pure_ (i := 0) (N := some 26) (v := ?_) (a' := ?_) #[true, false, false, false, false, false, false, false] rfl rfl (any_of HT_.out (by kernel_rfl)) (fun _ _ _ h => h) (Or.inl ⟨by rfl, ?_⟩) ?_ ?_
              rotate_left
              · intro w'
                go_simp
                with_reducible rfl
              rotate_left
              · simp only [Act.put, List.setIfInBounds_toArray, List.set_cons_zero, List.set_cons_succ, i64_w, i32_w]
                rfl
              refine pure_ (i := 1) (N := some 27) (v := ?_) (a' := ?_) #[true, true, false, false, false, false, false, false] rfl rfl (any_of HT_.out (by kernel_rfl)) (fun _ _ _ h => h) (Or.inl ⟨by rfl, ?_⟩) ?_ ?_
              rotate_left
              · intro w'
                go_simp
                with_reducible rfl
              rotate_left
              · simp only [Act.put, List.setIfInBounds_toArray, List.set_cons_zero, List.set_cons_succ, i64_w, i32_w]
                rfl
              refine pure_ (i := 4) (N := some 30) (v := ?_) (a' := ?_) #[true, true, false, false, true, false, false, false] rfl rfl (any_of HT_.out (by kernel_rfl)) (fun _ _ _ h => h) (Or.inl ⟨by rfl, ?_⟩) ?_ ?_
              rotate_left
              · intro w'
                go_simp
                with_reducible rfl
              rotate_left
              · simp only [Act.put, List.setIfInBounds_toArray, List.set_cons_zero, List.set_cons_succ, i64_w, i32_w]
                rfl
              refine take_ (i := 2) (N := some 28) (v := ?_) (a' := ?_) #[true, true, true, false, true, false, false, false] rfl rfl (take_ofW HT_.out HW_.out (by kernel_rfl)) (fun _ _ _ h => h) (Or.inl ⟨by rfl, ?_⟩) hHeld ?_ ?_
              rotate_left
              · rintro w' ⟨s0, s1⟩
                go_simp
                with_reducible rfl
              rotate_left
              · simp only [Act.put, List.setIfInBounds_toArray, List.set_cons_zero, List.set_cons_succ, i64_w, i32_w]
                rfl
              refine take_ (i := 5) (N := some 31) (v := ?_) (a' := ?_) #[true, true, true, false, true, true, false, false] rfl rfl (take_ofW HT_.out HW_.out (by kernel_rfl)) (fun _ _ _ h => h) (Or.inl ⟨by rfl, ?_⟩) hHeld ?_ ?_
              rotate_left
              · rintro w' ⟨s0, s1⟩
                go_simp
                with_reducible rfl
              rotate_left
              · simp only [Act.put, List.setIfInBounds_toArray, List.set_cons_zero, List.set_cons_succ, i64_w, i32_w]
                rfl
              refine one_ (i := 3) (N := some 29) #[true, true, true, true, true, true, false, false] rfl rfl (one_of HT_.out (by kernel_rfl)) (by decide) (fun K hK => ?_)
              refine goes_ Tryz.func144 (by kernel_rfl) rfl #[.slice Ao17 x7_1.length co17, .string ((rd_T89 l1 x22_1).f0)] (by rfl) rfl rfl (by (try simp only [List.map_toArray, List.map_cons, List.map_nil]); first | done | rfl | (simp only [List.length_drop, List.length_take]; rfl)) ?_
              with_reducible refine (vint_PutText.calls k1 _ _ x7_1 ((rd_T89 l1 x22_1).f0) t146 _ ?side1 ?side2 A11.out).mono ?_
              (case side1 => repeat (first | exact (Kd.R_reads' HO_7.out).2.2 | (with_reducible refine Kd.C_alloc ?_ _) | (with_reducible refine Kd.C_drewN ?_ _) | (with_reducible refine Kd.C_drew ?_)))
              (case side2 => exact (Kd.R_reads' HO_7.out).2.1)
              rintro e w18 ⟨v147, rfl, ho0, hb⟩
              refine ⟨_, rfl, ?_⟩
              have n0_ := Aside0.mk (Kd.R_elder' (by (with_reducible repeat (first | apply Kd.R_alloc | apply Kd.R_drewN | apply Kd.R_drew)); exact HO_7.out) (Kd.R_base ho0) hb)
              have n1_ := Aside0.mk (Kd.R_lower (Kd.R_new' ho0 (Kd.R_lt (by (with_reducible repeat (first | apply Kd.R_alloc | apply Kd.R_drewN | apply Kd.R_drew)); exact HO_7.out))) (below_size (by repeat (first | (with_reducible first | exact HB.out | apply below_alloc | apply pw_below_drewN | apply below_drew1 | refine below_set ?_ GE145.out) | exact HB.out))))
              have n2_ := Aside0.mk (blk_below (g := gb145) (o := .cells #[.string ((rd_T89 l1 x22_1).f0), .string ((rd_T89 l1 x22_1).f1)] 89 (0, 0)) (by (with_reducible repeat (first | refine blk_drewN ?_ _ | refine blk_drew ?_ | refine blk_alloc ?_ _)); exact BK145.out) hb)
              have n3_ := Aside0.mk (below_step (by repeat (first | (with_reducible first | exact HB.out | apply below_alloc | apply pw_below_drewN | apply below_drew1 | refine below_set ?_ GE145.out) | exact HB.out)) hb)
              clear HO_7
              clear BK145
              clear HB
              have HO_7 := n0_
              have HO148 := n1_
              have BK145 := n2_
              have HB := n3_
              clear n0_ n1_ n2_ n3_
              (try clear hb)
              (try clear hb2)
              (try clear hk)
              (try clear hi)
              (try clear ho0)
              obtain ⟨Ao19, co19, eo19⟩ := Kd.R_slice HO148.out
              (first | subst eo19 | (injection eo19 with f1_ f2_ f3_; have f4_ := f1_.symm; have f5_ := f3_.symm; clear f1_ f2_ f3_; subst f4_; subst f5_))
              refine hK.out _ _ ⟨(blk_cell BK145.out 0).trans rfl, (blk_cell BK145.out 1).trans rfl⟩ (fun hHeld => ?_)
              clear hK K
              refine norm_ (a' := ?_) ?_ ?_
              rotate_left
              · show Act.put _ (some 29) _ = _
                simp only [Act.put, List.setIfInBounds_toArray, List.set_cons_zero, List.set_cons_succ, i64_w, i32_w]
                rfl
              refine one_ (i := 6) (N := some 32) #[true, true, true, true, true, true, true, false] rfl rfl (one_of HT_.out (by kernel_rfl)) (by decide) (fun K hK => ?_)
              refine goes_ Tryz.func144 (by kernel_rfl) rfl #[.slice Ao19 t146.length co19, .string ((rd_T89 l1 x22_1).f1)] (by rfl) rfl rfl (by (try simp only [List.map_toArray, List.map_cons, List.map_nil]); first | done | rfl | (simp only [List.length_drop, List.length_take]; rfl)) ?_
              with_reducible refine (vint_PutText.calls k1 _ _ t146 ((rd_T89 l1 x22_1).f1) t149 _ ?side1 ?side2 A12.out).mono ?_
              (case side1 => repeat (first | exact (Kd.R_reads' HO148.out).2.2 | (with_reducible refine Kd.C_alloc ?_ _) | (with_reducible refine Kd.C_drewN ?_ _) | (with_reducible refine Kd.C_drew ?_)))
              (case side2 => exact (Kd.R_reads' HO148.out).2.1)
              rintro e w20 ⟨v150, rfl, ho0, hb⟩
              refine ⟨_, rfl, ?_⟩
              have n0_ := Aside0.mk (Kd.R_elder' (by (with_reducible repeat (first | apply Kd.R_alloc | apply Kd.R_drewN | apply Kd.R_drew)); exact HO_7.out) (Kd.R_base ho0) hb)
              have n1_ := Aside0.mk (Kd.R_elder' (by (with_reducible repeat (first | apply Kd.R_alloc | apply Kd.R_drewN | apply Kd.R_drew)); exact HO148.out) (Kd.R_base ho0) hb)
              have n2_ := Aside0.mk (Kd.R_lower (Kd.R_new' (Kd.R_new' ho0 (Kd.R_lt (by (with_reducible repeat (first | apply Kd.R_alloc | apply Kd.R_drewN | apply Kd.R_drew)); exact HO_7.out))) (Kd.R_lt (by (with_reducible repeat (first | apply Kd.R_alloc | apply Kd.R_drewN | apply Kd.R_drew)); exact HO148.out))) (below_size (by repeat (first | (with_reducible first | exact HB.out | apply below_alloc | apply pw_below_drewN | apply below_drew1 | refine below_set ?_ GE145.out) | exact HB.out))))
              have n3_ := Aside0.mk (blk_below (g := gb145) (o := .cells #[.string ((rd_T89 l1 x22_1).f0), .string ((rd_T89 l1 x22_1).f1)] 89 (0, 0)) (by (with_reducible repeat (first | refine blk_drewN ?_ _ | refine blk_drew ?_ | refine blk_alloc ?_ _)); exact BK145.out) hb)
              have n4_ := Aside0.mk (below_step (by repeat (first | (with_reducible first | exact HB.out | apply below_alloc | apply pw_below_drewN | apply below_drew1 | refine below_set ?_ GE145.out) | exact HB.out)) hb)
              clear HO_7
              clear HO148
              clear BK145
              clear HB
              have HO_7 := n0_
              have HO148 := n1_
              have HO151 := n2_
              have BK145 := n3_
              have HB := n4_
              clear n0_ n1_ n2_ n3_ n4_
              (try clear hb)
              (try clear hb2)
              (try clear hk)
              (try clear hi)
              (try clear ho0)
              refine hK.out _ _ ⟨(blk_cell BK145.out 0).trans rfl, (blk_cell BK145.out 1).trans rfl⟩ (fun hHeld => ?_)
              clear hK K
              refine norm_ (a' := ?_) ?_ ?_
              rotate_left
              · show Act.put _ (some 32) _ = _
                simp only [Act.put, List.setIfInBounds_toArray, List.set_cons_zero, List.set_cons_succ, i64_w, i32_w]
                rfl
              refine pure_ (i := 7) (N := some 7) (v := ?_) (a' := ?_) #[true, true, true, true, true, true, true, true] rfl rfl (any_of HT_.out (by kernel_rfl)) (fun _ _ _ h => h) (Or.inl ⟨by rfl, ?_⟩) ?_ ?_
              rotate_left
              · intro w'
                go_simp
                with_reducible rfl
              rotate_left
              · simp only [Act.put, List.setIfInBounds_toArray, List.set_cons_zero, List.set_cons_succ, i64_w, i32_w]
                rfl
              refine done_ (done_of HT_.out (by kernel_rfl)) ?_
              try go_wp2
              go_roundg k1
              case measure => have := HK1.out; omega
              case rel => exact ⟨(t149), (wrap64 (x22_1 + 1)), (by first | rfl | (simp; done) | (simp [*]; done)), H', ⟨by have := HK1.out; omega⟩, ⟨by (with_reducible repeat (first | apply Kd.R_alloc | apply Kd.R_drewN | apply Kd.R_drew)); exact Kd.R_mono HO151.out (fun _ hk => trivial)⟩, ⟨by repeat (first | (with_reducible first | exact HB.out | apply below_alloc | apply pw_below_drewN | apply below_drew1 | refine below_set ?_ GE145.out) | exact HB.out)⟩⟩
            · rw [if_neg c10] at H
              exact absurd H (by simp)
          · rw [if_neg c9] at H
            exact absurd H (by simp)
        · rw [if_neg c8] at H
          have c8b0 : decide (x22_1 < (l1.length : Int)) = false := decide_eq_false c8
          clear c8
          simp only [Option.some.injEq, Prod.mk.injEq] at H
          obtain ⟨rfl, rfl⟩ := H
          go_wp2
          go_ret2
          exact ⟨_, by first | rfl | (simp [errW_none, errW_some] <;> rfl) | (simp [*, errW_none, errW_some] <;> rfl), by (with_reducible repeat (first | apply Kd.R_alloc | apply Kd.R_drewN | apply Kd.R_drew)); exact HO_7.out, by repeat (first | (with_reducible first | exact HB.out | apply below_alloc | apply pw_below_drewN | apply below_drew1) | exact HB.out)⟩
  · rw [if_neg c4] at H
    have c4b0 : (t140 == 0) = false := beq_eq_false_iff_ne.mpr c4
    have c4b1 : (t140 != 0) = true := bne_iff_ne.mpr c4
    simp only [Option.some.injEq, Prod.mk.injEq] at H
    obtain ⟨rfl, rfl⟩ := H
    go_enter Tryz.func86, Tryz.ntmps86
    go_wp2_with (first | ((with_reducible refine gate_callee (f := 142) rfl ?_); refine goesL_ (some 11) rfl rfl Tryz.func142 (by kernel_rfl) rfl #[.slice A1 l1.length c1] rfl (by (try simp only [List.map_toArray, List.map_cons, List.map_nil]); first | done | rfl | (simp only [List.length_drop, List.length_take]; rfl)) ?_; (with_reducible refine (labels_right.calls k _ _ l1 t140 _ ?side1 ?side2 ?side3 A3.out).mono ?_); (case side1 => repeat (first | exact HR1.out | (with_reducible refine Kd.C_alloc ?_ _) | (with_reducible refine Kd.C_drewN ?_ _) | (with_reducible refine Kd.C_drew ?_))); (case side2 => exact HC1.out); (case side3 => first | exact HT.out | exact tabs_below HT.out (by repeat (first | (with_reducible first | exact HB.out | apply below_alloc | apply pw_below_drewN | apply below_drew1) | exact HB.out))); rintro e w21 ⟨rfl, hb⟩; refine ⟨_, rfl, ?_⟩; have n0_ := Aside0.mk (below_step (by repeat (first | (with_reducible first | exact HB.out | apply below_alloc | apply pw_below_drewN | apply below_drew1) | exact HB.out)) hb); clear HB; have HB := n0_; clear n0_; (try clear hb); (try clear hb2); (try clear hk); (try clear hi)))
    go_ret2
    exact ⟨_, by first | rfl | (simp [errW_none, errW_some] <;> rfl) | (simp [*, errW_none, errW_some] <;> rfl), by first | exact Kd.R_nil _ _ _ _ _ | exact Kd.N_nil _ _ _ _ _ | exact Kd.V_nil _ _ _ _ _ | exact Kd.Q_nil _ _ _ _ _ | exact Kd.S_nil _ _ _ _ _, by repeat (first | (with_reducible first | exact HB.out | apply below_alloc | apply pw_below_drewN | apply below_drew1) | exact HB.out)⟩

def tocsinlaw16_alike.f (a0 : Nat) (a1 : Nat) : Option (Bool) := some ((a0 : Int) == (a1 : Int))
set_option maxHeartbeats 8000000 in
set_option maxRecDepth 100000 in
theorem tocsinlaw16_alike.calls (a0 : Nat) (a1 : Nat) (r : Bool) (w : World) (h : tocsinlaw16_alike.f a0 a1 = some r) :
    Calls Tryz.prog 36 #[.float .f64 a0, .float .f64 a1] w fun e w' => e = .returned (.bool r) ∧ Drawn0 w w' := by
  have H : (some ((a0 : Int) == (a1 : Int))) = some r := h
  clear h
  obtain rfl := Option.some.inj H
  go_enter Tryz.func36, Tryz.ntmps36
  go_wp2
  go_ret
  exact ⟨by first | rfl | (simp; done) | (simp [*]; done), by repeat (first | exact Drawn0.refl _ | apply Drawn0.step)⟩

end Go.Proofs.YtoncpeadbhgmaaaGreatDoor.G

set_option linter.unusedVariables false
set_option linter.unusedSimpArgs false
namespace Go.Proofs.YtoncpeadbhgmaaaGreatDoor.G
open Go.RowKit Go.Sort Go.Proofs.YtoncpeadbhgmaaaGreatDoorW.PrintWords

theorem wrap_in (x : Int) (h0 : -9223372036854775808 ≤ x) (h1 : x ≤ 9223372036854775807) : wrap64 x = x := by unfold wrap64; omega
theorem wrap_succ (i : Nat) (h : i < 9223372036854775807) : wrap64 ((i : Int) + 1) = ((i + 1 : Nat) : Int) := by rw [wrap_in _ (by omega) (by omega)]; omega
theorem rdOf_at {α : Type} (z : α) (l : List α) (i : Nat) (h : i < l.length) : rdOf z l (i : Int) = l[i] := by simp [rdOf, List.getD_eq_getElem?_getD, h]
theorem toList_inj {a b : ByteArray} (h : a.toList = b.toList) : a = b := by
  rw [ByteArray.toList_eq, ByteArray.toList_eq] at h
  cases a; cases b
  simpa using h

def hasN (l : List ByteArray) (s : ByteArray) : Bool := l.any fun x => decide (x = s)
theorem hasN_cons (x : ByteArray) (l : List ByteArray) (s : ByteArray) : hasN (x :: l) s = (decide (x = s) || hasN l s) := rfl

theorem index_ev (l : List ByteArray) (s : ByteArray) (hl : l.length ≤ 140737488355328) : ∀ d i : Nat, i + d = l.length →
    ∃ r : Int, Ev (fun k => slices_Index_string_string.l0 k l s (l.length : Int) (i : Int)) r ∧ decide (r ≥ 0) = hasN (l.drop i) s
  | 0, i, h => by
    refine ⟨-1, Ev.step (fun k => by rw [slices_Index_string_string.l0]) ?_, ?_⟩
    · have h1 : ¬ ((i : Int) < (l.length : Int)) := by omega
      simp only [h1, if_false]
      exact Ev.now _
    · rw [List.drop_eq_nil_of_le (by omega)]; rfl
  | d + 1, i, h => by
    have hlt : i < l.length := by omega
    have h1 : (i : Int) < (l.length : Int) := by omega
    have h0 : (0 : Int) ≤ i := by omega
    rw [List.drop_eq_getElem_cons hlt, hasN_cons]
    by_cases he : l[i] = s
    · refine ⟨i, Ev.step (fun k => by rw [slices_Index_string_string.l0]) ?_, by simp [he]⟩
      rw [rdOf_at _ _ _ hlt]
      simp only [h1, h0, he, if_true]
      exact Ev.now _
    · obtain ⟨r, ih, hr⟩ := index_ev l s hl d (i + 1) (by omega)
      refine ⟨r, Ev.step (fun k => by rw [slices_Index_string_string.l0]) ?_, by simp [he, hr]⟩
      have he2 : ¬ s.toList = l[i].toList := fun h => he (toList_inj h).symm
      rw [rdOf_at _ _ _ hlt]
      simp only [h1, h0, if_true, he2, if_false, wrap_succ i (by omega)]
      exact ih
theorem contains_ev (l : List ByteArray) (s : ByteArray) (hl : l.length ≤ 140737488355328) : Ev (fun k => slices_Contains_string_string.f k l s) (hasN l s) := by
  obtain ⟨r, h, hr⟩ := index_ev l s hl l.length 0 (by omega)
  have h' : Ev (fun k => slices_Index_string_string.f k l s) r := h
  refine Ev.bind (f := fun _ t155 => some (decide (t155 ≥ 0))) h' ?_
  rw [hr]; exact Ev.now _

theorem has_ev (l : List ByteArray) (s : ByteArray) (hl : l.length ≤ 140737488355328) : ∀ d i : Nat, i + d = l.length →
    Ev (fun k => tocsinref04_has.l0 k s l (l.length : Int) (i : Int)) (hasN (l.drop i) s)
  | 0, i, h => by
    refine Ev.step (fun k => by rw [tocsinref04_has.l0]) ?_
    have h1 : ¬ ((i : Int) < (l.length : Int)) := by omega
    rw [List.drop_eq_nil_of_le (by omega)]
    simp only [h1, if_false]
    exact Ev.now _
  | d + 1, i, h => by
    have hlt : i < l.length := by omega
    have h1 : (i : Int) < (l.length : Int) := by omega
    have h0 : (0 : Int) ≤ i := by omega
    refine Ev.step (fun k => by rw [tocsinref04_has.l0]) ?_
    rw [List.drop_eq_getElem_cons hlt, hasN_cons, rdOf_at _ _ _ hlt]
    by_cases he : l[i] = s
    · simp only [h1, h0, he, if_true, decide_true, Bool.true_or]
      exact Ev.now _
    · have he2 : ¬ l[i].toList = s.toList := fun h => he (toList_inj h)
      simp only [h1, h0, if_true, he2, if_false, wrap_succ i (by omega), he, decide_false, Bool.false_or]
      exact has_ev l s hl d (i + 1) (by omega)
theorem has_f (l : List ByteArray) (s : ByteArray) (hl : l.length ≤ 140737488355328) : Ev (fun k => tocsinref04_has.f k l s) (hasN l s) := has_ev l s hl l.length 0 (by omega)

def pickF (l : List S89) (names : List ByteArray) (inn : Bool) : List S89 := l.filter fun x => hasN names x.f0 == inn
theorem pickF_yes (x : S89) (l : List S89) (names : List ByteArray) (inn : Bool) (h : (hasN names x.f0 == inn) = true) : pickF (x :: l) names inn = x :: pickF l names inn := by unfold pickF; rw [List.filter_cons, if_pos h]
theorem pickF_no (x : S89) (l : List S89) (names : List ByteArray) (inn : Bool) (h : ¬ (hasN names x.f0 == inn) = true) : pickF (x :: l) names inn = pickF l names inn := by unfold pickF; rw [List.filter_cons, if_neg h]
theorem pick_l0 (l : List S89) (names : List ByteArray) (inn : Bool) (hn : names.length ≤ 140737488355328) (hl : l.length ≤ 4398046511104) : ∀ (d i : Nat) (acc : List S89), i + d = l.length → acc.length ≤ i →
    Ev (fun k => labels_pick.l0 k inn names acc l (l.length : Int) (i : Int)) (acc ++ pickF (l.drop i) names inn)
  | 0, i, acc, h, ha => by
    refine Ev.step (fun k => by rw [labels_pick.l0]) ?_
    have h1 : ¬ ((i : Int) < (l.length : Int)) := by omega
    rw [List.drop_eq_nil_of_le (by omega)]
    simp only [h1, if_false]
    rw [show acc ++ pickF [] names inn = acc by simp [pickF]]
    exact Ev.now _
  | d + 1, i, acc, h, ha => by
    have hlt : i < l.length := by omega
    have h1 : (i : Int) < (l.length : Int) := by omega
    have h0 : (0 : Int) ≤ i := by omega
    refine Ev.step (fun k => by rw [labels_pick.l0]) ?_
    rw [List.drop_eq_getElem_cons hlt, rd_at _ _ hlt]
    simp only [h1, h0, if_true, wrap_succ i (by omega)]
    refine Ev.bind (contains_ev names l[i].f0 hn) ?_
    have hacc : acc.length < 4398046511104 := by omega
    by_cases he : (hasN names l[i].f0 == inn) = true
    · simp only [he, if_true, hacc]
      rw [show acc ++ pickF (l[i] :: l.drop (i + 1)) names inn = (acc ++ [l[i]]) ++ pickF (l.drop (i + 1)) names inn by rw [pickF_yes _ _ _ _ he, List.append_assoc]; rfl]
      exact pick_l0 l names inn hn hl d (i + 1) (acc ++ [l[i]]) (by omega) (by simp; omega)
    · simp only [he, if_false]
      rw [pickF_no _ _ _ _ he]
      exact pick_l0 l names inn hn hl d (i + 1) acc (by omega) (by omega)
theorem pick_f (l : List S89) (names : List ByteArray) (inn : Bool) (hn : names.length ≤ 140737488355328) (hl : l.length ≤ 4398046511104) : Ev (fun k => labels_pick.f k l inn names) (pickF l names inn) :=
  pick_l0 l names inn hn hl l.length 0 [] (by omega) (by simp)
theorem rpick_l0 (l : List S89) (names : List ByteArray) (inn : Bool) (hn : names.length ≤ 140737488355328) (hl : l.length ≤ 4398046511104) : ∀ (d i : Nat) (acc : List S89), i + d = l.length → acc.length ≤ i →
    Ev (fun k => tocsinref04_Pick.l0 k names inn acc l (l.length : Int) (i : Int)) (acc ++ pickF (l.drop i) names inn)
  | 0, i, acc, h, ha => by
    refine Ev.step (fun k => by rw [tocsinref04_Pick.l0]) ?_
    have h1 : ¬ ((i : Int) < (l.length : Int)) := by omega
    rw [List.drop_eq_nil_of_le (by omega)]
    simp only [h1, if_false]
    rw [show acc ++ pickF [] names inn = acc by simp [pickF]]
    exact Ev.now _
  | d + 1, i, acc, h, ha => by
    have hlt : i < l.length := by omega
    have h1 : (i : Int) < (l.length : Int) := by omega
    have h0 : (0 : Int) ≤ i := by omega
    refine Ev.step (fun k => by rw [tocsinref04_Pick.l0]) ?_
    rw [List.drop_eq_getElem_cons hlt, rd_at _ _ hlt]
    simp only [h1, h0, if_true, wrap_succ i (by omega)]
    refine Ev.bind (has_f names l[i].f0 hn) ?_
    have hacc : acc.length < 4398046511104 := by omega
    by_cases he : (hasN names l[i].f0 == inn) = true
    · simp only [he, if_true, hacc]
      rw [show acc ++ pickF (l[i] :: l.drop (i + 1)) names inn = (acc ++ [l[i]]) ++ pickF (l.drop (i + 1)) names inn by rw [pickF_yes _ _ _ _ he, List.append_assoc]; rfl]
      exact rpick_l0 l names inn hn hl d (i + 1) (acc ++ [l[i]]) (by omega) (by simp; omega)
    · simp only [he, if_false]
      rw [pickF_no _ _ _ _ he]
      exact rpick_l0 l names inn hn hl d (i + 1) acc (by omega) (by omega)
theorem rpick_f (l : List S89) (names : List ByteArray) (inn : Bool) (hn : names.length ≤ 140737488355328) (hl : l.length ≤ 4398046511104) : Ev (fun k => tocsinref04_Pick.f k l names inn) (pickF l names inn) :=
  rpick_l0 l names inn hn hl l.length 0 [] (by omega) (by simp)
end Go.Proofs.YtoncpeadbhgmaaaGreatDoor.G

set_option linter.unusedVariables false
set_option linter.unusedSimpArgs false
namespace Go.Proofs.YtoncpeadbhgmaaaGreatDoor.G
open Go.RowKit Go.Sort Go.Shelf Go.Proofs.YtoncpeadbhgmaaaGreatDoorW.PrintWords

/-- What the sort leaves: all but the row's own block. -/
def SortKept (W w' : World) (v : Value) : Prop := w'.os = W.os ∧ w'.tape = W.tape ∧ w'.output = W.output ∧ W.heap.size ≤ w'.heap.size ∧ ∀ k, k < W.heap.size → some k ≠ v.ownBlock → w'.heap[k]? = W.heap[k]?
theorem SortKept.below {W w' : World} {v : Value} {B : Nat} (h : SortKept W w' v) (hv : ∀ k, v.ownBlock = some k → B ≤ k) : B ≤ W.heap.size → Below B W w' := fun hB =>
  ⟨h.1, h.2.1, h.2.2.1, h.2.2.2.1, fun k hk => h.2.2.2.2 k (by omega) (fun e => by have := hv k e.symm; omega)⟩

/-- An element with its cells. -/
def El {A : Type} (d : Kd A) (W : World) (base : Nat) (okp : Nat → Prop) : Type := { p : List Value × A // p.1.length = d.sz ∧ (∀ u ∈ p.1, u.oneCell' = true) ∧ d.M W base okp p.2 p.1 }

theorem kept_world {α : Type} [Inhabited α] (enc : α → List Value) (k : Nat) (W : World) (blk n : Nat) (d' : Array α) (os : Array Obj) (c : Array Value) (e : Nat) (hb : W.heap[blk]? = some (.cells c e (0, 0))) (v : Value) (hv : v.ownBlock = some blk) :
    SortKept W (sortWorldK enc k W blk 0 n d' os) v := by
  have hlt : blk < W.heap.size := (Array.getElem?_eq_some_iff.1 hb).1
  refine ⟨rfl, rfl, rfl, ?_, fun j hj hne => ?_⟩
  · simp [sortWorldK, putRowK, size_grow]
  · simp only [sortWorldK]
    rw [heap_grow_old _ _ (by simpa [putRowK] using hj)]
    simp only [putRowK, putRow, mapBlock]
    rw [Array.getElem?_modify]
    rw [hv] at hne
    rw [if_neg (fun h => hne (by rw [h]))]
    rfl

theorem flat_chunk {α : Type} [Inhabited α] (enc : α → List Value) (k : Nat) (hk : ∀ x, (enc x).length = k) (d : Array α) (j : Nat) (hj : j < d.size) : ((flatK enc k d).toList.drop (j * k)).take k = enc d[j]! := by
  apply List.ext_getElem
  · have hle : j * k + k ≤ d.size * k := by rw [← Nat.succ_mul]; exact Nat.mul_le_mul_right _ hj
    simp [hk]; omega
  · intro i h1 h2
    have hi : i < k := by rw [hk] at h2; exact h2
    have hle : j * k + k ≤ d.size * k := by rw [← Nat.succ_mul]; exact Nat.mul_le_mul_right _ hj
    have hg := get_flatK enc k d (j * k + i) (by omega)
    have hdiv : (j * k + i) / k = j := by
      rw [Nat.mul_comm, Nat.mul_add_div (by omega), Nat.div_eq_of_lt hi]; omega
    have hmod : (j * k + i) % k = i := by
      rw [Nat.mul_comm, Nat.mul_add_mod]; exact Nat.mod_eq_of_lt hi
    rw [hdiv, hmod] at hg
    rw [getElem!_pos (flatK enc k d) _ (by simp; omega)] at hg
    simp only [List.getElem_take, List.getElem_drop, Array.getElem_toList]
    rw [hg, getElem!_pos (enc d[j]!) _ h2]

theorem kept_row {α : Type} [Inhabited α] (enc : α → List Value) (k : Nat) (W : World) (blk n : Nat) (d' : Array α) (os : Array Obj) (c : Array Value) (e : Nat) (hb : W.heap[blk]? = some (.cells c e (0, 0))) (hc : d'.size * k ≤ c.size) :
    ∃ c', (sortWorldK enc k W blk 0 n d' os).heap[blk]? = some (.cells c' e (0, 0)) ∧ c'.size = c.size ∧ c'.toList.take (d'.size * k) = (flatK enc k d').toList := by
  have hlt : blk < W.heap.size := (Array.getElem?_eq_some_iff.1 hb).1
  refine ⟨putCells id 0 (flatK enc k d') c, ?_, by simp [putCells], ?_⟩
  · simp only [sortWorldK]
    rw [heap_grow_old _ _ (by simpa [putRowK] using hlt)]
    simp only [putRowK, putRow, mapBlock]
    rw [Array.getElem?_modify, if_pos rfl]
    show (W.heap[blk]?).map _ = _
    rw [hb]; rfl
  · apply List.ext_getElem
    · simp [putCells]; omega
    · intro i h1 h2
      have hi : i < (flatK enc k d').size := by simpa using h2
      simp only [List.getElem_take, Array.getElem_toList, putCells, Array.getElem_mapIdx, Nat.zero_le, true_and, Nat.zero_add, Nat.sub_zero, id]
      rw [if_pos hi, getElem!_pos (flatK enc k d') _ hi]

theorem swo_sub {A : Type} {c : A → A → Int} (h : SWO (ltOf c)) {B : Type} (f : B → A) : SWO (ltOf fun x y : B => c (f x) (f y)) :=
  ⟨fun x => h.irrefl (f x), fun x y z => h.trans (f x) (f y) (f z), fun x y z => h.ntrans (f x) (f y) (f z)⟩

set_option maxHeartbeats 1000000 in
/-- slices.SortFunc over a row of one's own: the same elements, rising by the comparison; nothing but the row's block is turned. -/
theorem sort_rows {A : Type} (d : Kd A) {ρ : Ren} (L : SlLaysF0.n6 Tryz.prog ρ) (aE : ∀ w, (isAgg (ρ.t 24)).run Tryz.prog w = .ok true w) (zE : ∀ w, (Go.sizeOf (ρ.t 24)).run Tryz.prog w = .ok d.sz w)
    (c : A → A → Int) (hO : SWO (ltOf c)) (g : Nat) (cb : Array Value) (eg : ∀ args w, (callFunc g args).run Tryz.prog w = .ok (.enter g args) w)
    (e base : Nat) (ok : Nat → Prop) (v : Value) (xs : List A) (W : World) (ho : d.R e W base ok v xs) (hl : xs.length < 4611686018427387904)
    (hcmp : ∀ (W' : World) (x y : A) (cx cy : List Value), SortKept W W' v → d.K W' x cx → d.K W' y cy → Calls Tryz.prog g (#[.agg cx.toArray, .agg cy.toArray] ++ cb) W' fun e w' => e = .returned (.int .i64 (c x y)) ∧ Grew W' w') :
    Calls Tryz.prog (ρ.f 6) #[v, .func (.func g) #[] cb] W fun e' w' => e' = .returned (.tuple #[]) ∧ ∃ ys : List A, ys.Perm xs ∧ (ys.Pairwise fun a b => ¬ c b a < 0) ∧ d.R e w' base ok v ys ∧ SortKept W w' v := by
  obtain ⟨h0, inner, ho1, hr⟩ := ho
  rcases ho1.2 with ⟨rfl, hn⟩ | ⟨blk, cap, cur, rfl, hbase, hb, hnc, hcm, hcs, ht⟩
  · have hx : xs = [] := List.eq_nil_of_length_eq_zero hn
    subst hx
    refine (AnyF.slices_SortFunc_none L none 0 _ W).mono ?_
    rintro e' w' ⟨rfl, rfl⟩
    exact ⟨rfl, [], List.Perm.refl _, List.Pairwise.nil, Kd.R_nil _ _ _ _ _, rfl, rfl, rfl, Nat.le_refl _, fun _ _ _ => rfl⟩
  · by_cases hx : xs = []
    · subst hx
      refine (AnyF.slices_SortFunc_none L _ _ _ W).mono ?_
      rintro e' w' ⟨rfl, rfl⟩
      exact ⟨rfl, [], List.Perm.refl _, List.Pairwise.nil, ⟨h0, inner, ho1, hr⟩, rfl, rfl, rfl, Nat.le_refl _, fun _ _ _ => rfl⟩
    · let okp : Nat → Prop := fun k => ok k ∧ some k ≠ (Value.slice (some ⟨blk, 0, none⟩) xs.length cap).ownBlock
      have hel : ∀ i : Fin xs.length, (((inner.drop (i.1 * d.sz)).take d.sz).length = d.sz ∧ (∀ u ∈ (inner.drop (i.1 * d.sz)).take d.sz, u.oneCell' = true) ∧ d.M W base okp xs[i] ((inner.drop (i.1 * d.sz)).take d.sz)) := fun i => by
        have h := hr.2 i.1 xs[i] (by simp)
        exact ⟨d.K_len (d.K_of_M h), d.K_one (d.K_of_M h), h⟩
      let f : Fin xs.length → El d W base okp := fun i => ⟨((inner.drop (i.1 * d.sz)).take d.sz, xs[i]), hel i⟩
      let D : Array (El d W base okp) := Array.ofFn f
      have hDs : D.size = xs.length := Array.size_ofFn
      have hDg : ∀ (i : Nat) (hi : i < D.size), (D[i]'hi).1 = ((inner.drop (i * d.sz)).take d.sz, xs[i]'(by omega)) := fun i hi => by
        exact congrArg Subtype.val (Array.getElem_ofFn (f := f) (i := i) hi)
      haveI : Inhabited (El d W base okp) := ⟨D[0]'(by rw [hDs]; exact List.length_pos_iff.2 hx)⟩
      let enc : El d W base okp → List Value := fun p => p.1.1
      have hk : ∀ x, (enc x).length = d.sz := fun x => x.2.1
      have h1 : ∀ x, ∀ u ∈ enc x, u.oneCell' = true := fun x => x.2.2.1
      have hblk : blk < W.heap.size := (Array.getElem?_eq_some_iff.1 hb).1
      have hflat : (flatK enc d.sz D).toList = inner := by
        apply List.ext_getElem
        · simp [hDs]; rw [ho1.1]
        · intro t t1 t2
          have ht' : t < D.size * d.sz := by simpa using t1
          have hz : 0 < d.sz := by
            rcases Nat.eq_zero_or_pos d.sz with h | h
            · rw [h] at ht'; omega
            · exact h
          have hj : t / d.sz < D.size := Nat.div_lt_of_lt_mul (by rw [Nat.mul_comm]; exact ht')
          have hg := get_flatK enc d.sz D t ht'
          rw [getElem!_pos (flatK enc d.sz D) _ (by simpa using ht')] at hg
          rw [Array.getElem_toList, hg, getElem!_pos D _ hj]
          have hm : t % d.sz < d.sz := Nat.mod_lt _ hz
          have he : enc D[t / d.sz] = (inner.drop (t / d.sz * d.sz)).take d.sz := by show (D[t / d.sz].1).1 = _; rw [hDg _ hj]
          rw [getElem!_pos (enc D[t / d.sz]) _ (by rw [hk]; exact hm)]
          simp only [he, List.getElem_take, List.getElem_drop]
          congr 1
          rw [Nat.mul_comm]; exact Nat.div_add_mod _ _
      have hH : HoldsK enc d.sz W blk 0 D := by
        intro t ht'
        have htl : t < inner.length := by rw [← hflat]; simpa using ht'
        have hcur : cur[t]? = some inner[t] := by
          have h3 : (cur.toList.take (xs.length * d.sz))[t]? = some inner[t] := by rw [ht]; exact List.getElem?_eq_getElem htl
          rw [List.getElem?_take] at h3
          split at h3
          · simpa using h3
          · cases h3
        have hval : (flatK enc d.sz D)[t]! = inner[t] := by
          rw [getElem!_pos (flatK enc d.sz D) _ ht']
          have : (flatK enc d.sz D).toList[t]'(by simpa using ht') = inner[t] := by simp only [hflat]
          simpa using this
        refine ⟨?_, ?_⟩
        · simp only [World.cell?, hb, Nat.zero_add]
          simp [hcur, hval]
        · simp [World.frozen?, hb]
      have hcmp' : CmpLays Tryz.prog g cb enc d.sz (fun x y : El d W base okp => c x.1.2 y.1.2) blk 0 D.size W := by
        intro m os dk hdk x y
        have hkw := kept_world enc d.sz W blk m dk os cur e hb (.slice (some ⟨blk, 0, none⟩) xs.length cap) rfl
        have hKx : ∀ z : El d W base okp, d.K (sortWorldK enc d.sz W blk 0 m dk os) z.1.2 z.1.1 := fun z =>
          d.K_of_M (Kd.M_step z.2.2.2 (fun j hj hlt => hkw.2.2.2.2 j hlt hj.2))
        have h := hcmp _ x.1.2 y.1.2 x.1.1 y.1.1 hkw (hKx x) (hKx y)
        exact h.mono fun e' w' ⟨he, n, os', hw⟩ => ⟨he, n, os', hw⟩
      have hcon := AnyQ.slices_SortFunc L d.sz aE zE enc hk h1 (fun x y : El d W base okp => c x.1.2 y.1.2) (swo_sub hO _) g cb blk 0 cap D W eg hcmp' hH hblk (by rw [hDs]; exact hl)
      rw [hDs] at hcon
      refine hcon.mono ?_
      rintro e' w' ⟨rfl, d', n, os, hperm, hsort, rfl⟩
      have hd's : d'.size = xs.length := hperm.1.trans hDs
      have hkw := kept_world enc d.sz W blk n d' os cur e hb (.slice (some ⟨blk, 0, none⟩) xs.length cap) rfl
      refine ⟨rfl, d'.toList.map (fun p => p.1.2), ?_, ?_, ?_, hkw⟩
      · have h2 := hperm.2.2
        have h3 : d'.extract 0 xs.length = d' := by rw [← hd's]; simp
        have h4 : D.extract 0 xs.length = D := by rw [← hDs]; simp
        rw [h3, h4] at h2
        have h5 := h2.map (fun p : El d W base okp => p.1.2)
        have h6 : D.toList.map (fun p : El d W base okp => p.1.2) = xs := by
          apply List.ext_getElem
          · simp [hDs]
          · intro i i1 i2
            rw [List.getElem_map, Array.getElem_toList, hDg _ (by simpa using i1)]
        rw [h6] at h5
        exact h5
      · rw [List.pairwise_map, List.pairwise_iff_getElem]
        intro i j hi hj hij
        have hi' : i < d'.size := by simpa using hi
        have hj' : j < d'.size := by simpa using hj
        have h := hsort i j (Nat.zero_le _) hij (by omega)
        rw [getElem!_pos d' _ hj', getElem!_pos d' _ hi'] at h
        simpa [ltOf] using h
      · obtain ⟨c', hc1, hc2, hc3⟩ := kept_row enc d.sz W blk n d' os cur e hb (by rw [hd's, hcs]; exact Nat.mul_le_mul_right _ hnc)
        refine ⟨fun k hk' => h0 k hk', (flatK enc d.sz d').toList, ⟨by simp [hd's], .inr ⟨blk, cap, c', by simp [hd's], hbase, hc1, by simpa [hd's] using hnc, hcm, by rw [hc2, hcs], by simpa using hc3⟩⟩, by simp, fun j p hj => ?_⟩
        obtain ⟨hjl, hp⟩ := List.getElem?_eq_some_iff.1 hj
        have hj' : j < d'.size := by simpa using hjl
        rw [flat_chunk enc d.sz hk d' j hj', getElem!_pos d' _ hj']
        have hp2 : d'[j].1.2 = p := by simpa using hp
        subst hp2
        exact Kd.M_step d'[j].2.2.2 (fun k hk' hlt => hkw.2.2.2.2 k hlt hk'.2)
end Go.Proofs.YtoncpeadbhgmaaaGreatDoor.G

set_option linter.unusedVariables false
set_option linter.unusedSimpArgs false
namespace Go.Proofs.YtoncpeadbhgmaaaGreatDoor.G
open Go.RowKit Go.Sort Go.Proofs.YtoncpeadbhgmaaaGreatDoorW.PrintWords

/-- A comparison that is a linear order: below 0, 0, above 0. -/
structure Lin {α : Type} (f : α → α → Int) : Prop where
  swap : ∀ a b, f b a = - f a b
  zero : ∀ a b, f a b = 0 ↔ a = b
  trans : ∀ a b c, f a b < 0 → f b c < 0 → f a c < 0

theorem cb_lin : Lin Lib.compareBytes where
  swap := by
    intro a
    induction a with
    | nil => intro b; cases b <;> rfl
    | cons x a ih =>
      intro b
      cases b with
      | nil => rfl
      | cons y b =>
        simp only [Lib.compareBytes]
        by_cases h1 : x < y
        · have h2 : ¬ y < x := by rw [UInt8.lt_iff_toNat_lt] at *; omega
          simp [h1, h2]
        · by_cases h2 : y < x
          · simp [h1, h2]
          · simp [h1, h2, ih]
  zero := by
    intro a
    induction a with
    | nil => intro b; cases b <;> simp [Lib.compareBytes]
    | cons x a ih =>
      intro b
      cases b with
      | nil => simp [Lib.compareBytes]
      | cons y b =>
        simp only [Lib.compareBytes]
        by_cases h1 : x < y
        · have h2 : ¬ x = y := by rintro rfl; rw [UInt8.lt_iff_toNat_lt] at h1; omega
          simp [h1, h2]
        · by_cases h2 : y < x
          · have h3 : ¬ x = y := by rintro rfl; rw [UInt8.lt_iff_toNat_lt] at h2; omega
            simp [h1, h2, h3]
          · have h3 : x = y := by
              apply UInt8.toNat_inj.1
              rw [UInt8.lt_iff_toNat_lt] at h1 h2; omega
            simp [h1, h2, h3, ih]
  trans := by
    intro a
    induction a with
    | nil =>
      intro b c h1 h2
      cases b with
      | nil => simp [Lib.compareBytes] at h1
      | cons y b =>
        cases c with
        | nil => simp [Lib.compareBytes] at h2
        | cons z c => simp [Lib.compareBytes]
    | cons x a ih =>
      intro b c h1 h2
      cases b with
      | nil => simp [Lib.compareBytes] at h1
      | cons y b =>
        cases c with
        | nil => simp [Lib.compareBytes] at h2
        | cons z c =>
          simp only [Lib.compareBytes] at *
          by_cases xy : x < y
          · by_cases yz : y < z
            · have : x < z := by rw [UInt8.lt_iff_toNat_lt] at *; omega
              simp [this]
            · by_cases zy : z < y
              · simp [yz, zy] at h2
              · have : y = z := by
                  apply UInt8.toNat_inj.1
                  rw [UInt8.lt_iff_toNat_lt] at yz zy; omega
                subst this; simp [xy]
          · by_cases yx : y < x
            · simp [xy, yx] at h1
            · have : x = y := by
                apply UInt8.toNat_inj.1
                rw [UInt8.lt_iff_toNat_lt] at xy yx; omega
              subst this
              simp only [xy, yx, if_false] at h1
              by_cases xz : x < z
              · simp [xz]
              · by_cases zx : z < x
                · simp [xz, zx] at h2
                · simp only [xz, zx, if_false] at h2 ⊢
                  exact ih b c h1 h2

theorem cmpB_lin : Lin cmpB where
  swap a b := cb_lin.swap _ _
  zero a b := by
    unfold cmpB
    rw [cb_lin.zero]
    constructor
    · intro h; cases a; cases b; simpa using h
    · rintro rfl; rfl
  trans a b c := cb_lin.trans _ _ _

theorem lin_pair {α β γ : Type} {f : α → α → Int} {g : β → β → Int} (hf : Lin f) (hg : Lin g) (p : γ → α) (q : γ → β) (hpq : ∀ x y, p x = p y → q x = q y → x = y) :
    Lin fun x y => if f (p x) (p y) = 0 then g (q x) (q y) else f (p x) (p y) where
  swap a b := by
    rw [hf.swap (p a) (p b), hg.swap (q a) (q b)]
    by_cases h : f (p a) (p b) = 0
    · rw [if_pos (by omega), if_pos h]
    · rw [if_neg (by omega), if_neg h]
  zero a b := by
    by_cases h : f (p a) (p b) = 0
    · rw [if_pos h, hg.zero]
      exact ⟨fun h2 => hpq _ _ ((hf.zero _ _).1 h) h2, fun e => by rw [e]⟩
    · rw [if_neg h]
      exact ⟨fun h2 => absurd h2 h, fun e => absurd ((hf.zero _ _).2 (by rw [e])) h⟩
  trans a b c := by
    intro h1 h2
    by_cases x : f (p a) (p b) = 0
    · rw [if_pos x] at h1
      rw [(hf.zero _ _).1 x]
      by_cases y : f (p b) (p c) = 0
      · rw [if_pos y] at h2 ⊢; exact hg.trans _ _ _ h1 h2
      · rw [if_neg y] at h2 ⊢; exact h2
    · rw [if_neg x] at h1
      by_cases y : f (p b) (p c) = 0
      · rw [← (hf.zero _ _).1 y, if_neg x]; exact h1
      · rw [if_neg y] at h2
        have := hf.trans _ _ _ h1 h2
        rw [if_neg (by omega)]; exact this

theorem cmpLab_lin : Lin cmpLab := lin_pair cmpB_lin cmpB_lin (fun x : S89 => x.f0) (fun x : S89 => x.f1) (fun x y h1 h2 => by cases x; cases y; simp_all)

theorem cmpLs_lin : Lin cmpLs where
  swap := by
    intro a
    induction a with
    | nil => intro b; cases b <;> rfl
    | cons x a ih =>
      intro b
      cases b with
      | nil => rfl
      | cons y b =>
        simp only [cmpLs]
        rw [cmpLab_lin.swap x y, ih b]
        by_cases h : cmpLab x y = 0
        · rw [if_pos (by omega), if_pos h]
        · rw [if_neg (by omega), if_neg h]
  zero := by
    intro a
    induction a with
    | nil => intro b; cases b <;> simp [cmpLs]
    | cons x a ih =>
      intro b
      cases b with
      | nil => simp [cmpLs]
      | cons y b =>
        simp only [cmpLs]
        by_cases h : cmpLab x y = 0
        · rw [if_pos h, ih, (cmpLab_lin.zero _ _).1 h]; simp
        · rw [if_neg h]
          exact ⟨fun h2 => absurd h2 h, fun e => absurd ((cmpLab_lin.zero _ _).2 (by injection e)) h⟩
  trans := by
    intro a
    induction a with
    | nil =>
      intro b c h1 h2
      cases b with
      | nil => simp [cmpLs] at h1
      | cons y b =>
        cases c with
        | nil => simp [cmpLs] at h2
        | cons z c => simp [cmpLs]
    | cons x a ih =>
      intro b c h1 h2
      cases b with
      | nil => simp [cmpLs] at h1
      | cons y b =>
        cases c with
        | nil => simp [cmpLs] at h2
        | cons z c =>
          simp only [cmpLs] at *
          by_cases xy : cmpLab x y = 0
          · rw [if_pos xy] at h1
            rw [(cmpLab_lin.zero _ _).1 xy]
            by_cases yz : cmpLab y z = 0
            · rw [if_pos yz] at h2 ⊢; exact ih b c h1 h2
            · rw [if_neg yz] at h2 ⊢; exact h2
          · rw [if_neg xy] at h1
            by_cases yz : cmpLab y z = 0
            · rw [← (cmpLab_lin.zero _ _).1 yz, if_neg xy]; exact h1
            · rw [if_neg yz] at h2
              have := cmpLab_lin.trans _ _ _ h1 h2
              rw [if_neg (by omega)]; exact this

theorem Lin.refl {α : Type} {f : α → α → Int} (h : Lin f) (a : α) : f a a = 0 := (h.zero a a).2 rfl
theorem Lin.swo {α : Type} {f : α → α → Int} (h : Lin f) : SWO (ltOf f) where
  irrefl x := by simp [ltOf, h.refl]
  trans x y z h1 h2 := by simp only [ltOf, decide_eq_true_eq] at *; exact h.trans _ _ _ h1 h2
  ntrans x y z h1 h2 := by
    simp only [ltOf, decide_eq_false_iff_not] at *
    intro h3
    have s1 := h.swap x y
    have s2 := h.swap y z
    by_cases e1 : f x y = 0
    · rw [(h.zero _ _).1 e1] at h3; exact h2 h3
    · by_cases e2 : f y z = 0
      · rw [← (h.zero _ _).1 e2] at h3; exact h1 h3
      · have h4 := h.trans x z y h3 (by omega)
        exact h1 h4
theorem cmpPt_swo : SWO (ltOf fun x y : S41 => cmpLs x.f0 y.f0) := swo_sub cmpLs_lin.swo (fun x : S41 => x.f0)

theorem bl_cmp : ∀ a b : List UInt8, Op.bytesLess a b = decide (Lib.compareBytes a b < 0)
  | [], [] => rfl
  | [], _ :: _ => rfl
  | _ :: _, [] => rfl
  | x :: a, y :: b => by
    simp only [Op.bytesLess, Lib.compareBytes]
    by_cases h1 : x < y
    · simp [h1]
    · by_cases h2 : y < x
      · have h3 : ¬ x = y := by rintro rfl; exact h1 h2
        simp [h1, h2, h3]
      · have h3 : x = y := by
          apply UInt8.toNat_inj.1
          rw [UInt8.lt_iff_toNat_lt] at h1 h2; omega
        simp [h1, h2, h3, bl_cmp a b]
theorem cb_vals : ∀ a b : List UInt8, Lib.compareBytes a b = -1 ∨ Lib.compareBytes a b = 0 ∨ Lib.compareBytes a b = 1
  | [], [] => by simp [Lib.compareBytes]
  | [], _ :: _ => by simp [Lib.compareBytes]
  | _ :: _, [] => by simp [Lib.compareBytes]
  | x :: a, y :: b => by
    simp only [Lib.compareBytes]
    have := cb_vals a b
    repeat' split
    all_goals simp_all
theorem less_cmp (a b : ByteArray) : Op.bytesLess a.toList b.toList = decide (cmpB a b < 0) := by
  rw [ByteArray.toList_eq, ByteArray.toList_eq]; exact bl_cmp _ _
theorem side_f (a b : ByteArray) : tocsinref04_side.f a b = some (cmpB a b) := by
  unfold tocsinref04_side.f
  rw [less_cmp, less_cmp, cmpB_lin.swap a b]
  have := cb_vals a.data.toList b.data.toList
  change cmpB a b = -1 ∨ cmpB a b = 0 ∨ cmpB a b = 1 at this
  rcases this with h | h | h <;> simp [h]

theorem cmp_ev (a b : List S89) (ha : a.length ≤ 140737488355328) (hb : b.length ≤ 140737488355328) : ∀ d i : Nat, i + d = a.length → i ≤ b.length →
    Ev (fun k => tocsinref04_Compare.l0 k a b (i : Int)) (cmpLs (a.drop i) (b.drop i))
  | 0, i, h, hib => by
    have hge : ¬ (i : Int) < (a.length : Int) := by omega
    refine Ev.step (fun k => by rw [tocsinref04_Compare.l0]) ?_
    simp only [hge, if_false]
    refine Ev.step (fun k => by rw [tocsinref04_Compare.j1]) ?_
    simp only [Bool.false_eq_true, if_false]
    by_cases h1 : a.length < b.length
    · have h1i : (a.length : Int) < (b.length : Int) := by omega
      simp only [h1i, if_true]
      rw [cmpLs_end _ _ _ (by omega) (by omega)]; exact Ev.now _
    · have h1i : ¬ (a.length : Int) < (b.length : Int) := by omega
      have h2i : ¬ (a.length : Int) > (b.length : Int) := by omega
      simp only [h1i, h2i, if_false]
      rw [cmpLs_both _ _ _ (by omega) (by omega)]; exact Ev.now _
  | d + 1, i, h, hib => by
    have h1 : (i : Int) < (a.length : Int) := by omega
    have h0 : (0 : Int) ≤ i := by omega
    refine Ev.step (fun k => by rw [tocsinref04_Compare.l0]) ?_
    simp only [h1, if_true]
    refine Ev.step (fun k => by rw [tocsinref04_Compare.j1]) ?_
    by_cases hlt : i < b.length
    · have h2 : (i : Int) < (b.length : Int) := by omega
      simp only [h2, h1, h0, decide_true, if_true, side_f, Option.bind_some]
      rw [cmpLs_step a b i (by omega) hlt]
      simp only [cmpLab]
      generalize rd_T89 a i = u
      generalize rd_T89 b i = v
      by_cases e0 : cmpB u.f0 v.f0 = 0
      · simp only [e0, if_true]
        by_cases e1 : cmpB u.f1 v.f1 = 0
        · simp only [e1, if_true, wrap_succ i (by omega)]
          exact cmp_ev a b ha hb d (i + 1) (by omega) (by omega)
        · simp only [e1, if_false]; exact Ev.now _
      · simp only [e0, if_false]; exact Ev.now _
    · have h2 : ¬ (i : Int) < (b.length : Int) := by omega
      have h3 : ¬ (a.length : Int) < (b.length : Int) := by omega
      have h4 : (a.length : Int) > (b.length : Int) := by omega
      simp only [h2, h3, h4, decide_false, Bool.false_eq_true, if_false, if_true]
      rw [cmpLs_more _ _ _ (by omega) (by omega)]; exact Ev.now _
theorem compare_f (a b : List S89) (ha : a.length ≤ 140737488355328) (hb : b.length ≤ 140737488355328) : Ev (fun k => tocsinref04_Compare.f k a b) (cmpLs a b) := cmp_ev a b ha hb a.length 0 (by omega) (by omega)
theorem same_f (a b : List S89) (ha : a.length ≤ 140737488355328) (hb : b.length ≤ 140737488355328) : Ev (fun k => tocsinref04_Same.f k a b) (cmpLs a b == 0) :=
  Ev.bind (f := fun _ t => some (t == 0)) (compare_f a b ha hb) (Ev.now _)
end Go.Proofs.YtoncpeadbhgmaaaGreatDoor.G

set_option linter.unusedVariables false
set_option linter.unusedSimpArgs false
namespace Go.Proofs.YtoncpeadbhgmaaaGreatDoor.G
open Go.RowKit Go.Sort Go.Proofs.YtoncpeadbhgmaaaGreatDoorW.PrintWords

theorem and31 : ∀ X : Fin 256, Go.bits .and .i64 ((X.val : Nat) : Int) 31 = ((X.val % 32 : Nat) : Int) := by decide +kernel
theorem and31_n (x : Nat) (h : x < 256) : Go.bits .and .i64 (x : Int) 31 = ((x % 32 : Nat) : Int) := and31 ⟨x, h⟩
theorem and15 : ∀ X : Fin 256, Go.bits .and .i64 ((X.val : Nat) : Int) 15 = ((X.val % 16 : Nat) : Int) := by decide +kernel
theorem and15_n (x : Nat) (h : x < 256) : Go.bits .and .i64 (x : Int) 15 = ((x % 16 : Nat) : Int) := and15 ⟨x, h⟩
theorem and7i : ∀ X : Fin 256, Go.bits .and .i64 ((X.val : Nat) : Int) 7 = ((X.val % 8 : Nat) : Int) := by decide +kernel
theorem and7i_n (x : Nat) (h : x < 256) : Go.bits .and .i64 (x : Int) 7 = ((x % 8 : Nat) : Int) := and7i ⟨x, h⟩
theorem and192 : ∀ X : Fin 256, Go.bits .and .u8 ((X.val : Nat) : Int) 192 = ((X.val / 64 * 64 : Nat) : Int) := by decide +kernel
theorem and192_n (x : Nat) (h : x < 256) : Go.bits .and .u8 (x : Int) 192 = ((x / 64 * 64 : Nat) : Int) := and192 ⟨x, h⟩
theorem and63 : ∀ X : Fin 256, Go.bits .and .u8 ((X.val : Nat) : Int) 63 = ((X.val % 64 : Nat) : Int) := by decide +kernel
theorem and63_n (x : Nat) (h : x < 256) : Go.bits .and .u8 (x : Int) 63 = ((x % 64 : Nat) : Int) := and63 ⟨x, h⟩

/-- The byte at a place, 0 beyond the end. -/
def byt (s : ByteArray) (i : Nat) : Nat := (s.data.toList.getD i 0).toNat
theorem byt_lt (s : ByteArray) (i : Nat) : byt s i < 256 := (s.data.toList.getD i 0).toNat_lt
theorem bt_byt (s : ByteArray) (i : Nat) : bt s (i : Int) = (byt s i : Int) := by
  unfold bt byt
  simp only [Int.toNat_natCast]
  split
  · rename_i h
    have h' : i < s.data.toList.length := by rw [data_length]; exact h
    rw [List.getD_eq_getElem?_getD, List.getElem?_eq_getElem h']; rfl
  · rename_i h
    have h' : s.data.toList.length ≤ i := by rw [data_length]; omega
    rw [List.getD_eq_getElem?_getD, List.getElem?_eq_none h']; rfl
theorem byt_drop (s : ByteArray) (i j : Nat) : ((s.data.toList.drop i).getD j 0).toNat = byt s (i + j) := by
  unfold byt
  rw [List.getD_eq_getElem?_getD, List.getD_eq_getElem?_getD, List.getElem?_drop]

theorem wr64 (a : Nat) (h : a < 4611686018427387904) : wrap64 (a : Int) = (a : Int) := wrap_in _ (by omega) (by omega)
theorem wr_add (a b : Nat) (h : a + b < 4611686018427387904) : wrap64 ((a : Int) + (b : Int)) = ((a + b : Nat) : Int) := by rw [← Int.natCast_add]; exact wr64 _ h
theorem wr_mul (a b : Nat) (h : a * b < 4611686018427387904) : wrap64 ((a : Int) * (b : Int)) = ((a * b : Nat) : Int) := by rw [← Int.natCast_mul]; exact wr64 _ h

section
variable (s : ByteArray) (hs : s.size ≤ 140737488355328)
include hs
theorem u_go (i n r j : Nat) (least : Int) (R : Bool) (hi : i ≤ s.size) (hn : n ≤ 3) (hj : 1 ≤ j) (hjn : j ≤ n) (hlt : i + j < s.size) (hc : byt s (i + j) / 64 = 2) (hr : r < 1000000000)
    (h : Ev (fun k => tocsinref01_Utf8.l1 k s (i : Int) (n : Int) least ((r * 64 + byt s (i + j) % 64 : Nat) : Int) ((j + 1 : Nat) : Int)) R) :
    Ev (fun k => tocsinref01_Utf8.l1 k s (i : Int) (n : Int) least (r : Int) (j : Int)) R := by
  refine Ev.step (fun k => by rw [tocsinref01_Utf8.l1]) ?_
  have e1 := wr_add i j (by omega)
  have hb := byt_lt s (i + j)
  have e2 := and192_n (byt s (i + j)) hb
  have e3 := and63_n (byt s (i + j)) hb
  rw [e1, bt_byt, e2, e3]
  clear e1 e2 e3
  have h1 : ((j : Int) ≤ (n : Int)) := by omega
  have h2 : ¬ (((i + j : Nat) : Int) ≥ (s.size : Int)) := by omega
  have h3 : (0 : Int) ≤ ((i + j : Nat) : Int) := by omega
  have h4 : ((i + j : Nat) : Int) < (s.size : Int) := by omega
  have h5 : ((byt s (i + j) / 64 * 64 : Nat) : Int) = 128 := by rw [hc]; rfl
  have e4 := wr64 (byt s (i + j) % 64) (by omega)
  have e5 : wrap64 ((r : Int) * 64) = ((r * 64 : Nat) : Int) := wr_mul r 64 (by omega)
  have e6 := wr_add (r * 64) (byt s (i + j) % 64) (by omega)
  simp only [h1, h2, h3, h4, h5, if_true, if_false, e4, e5, e6, wrap_succ j (by omega)]
  exact h
theorem u_bad (i n r j : Nat) (least : Int) (hi : i ≤ s.size) (hn : n ≤ 3) (hjn : j ≤ n) (hc : i + j < s.size → byt s (i + j) / 64 ≠ 2) :
    Ev (fun k => tocsinref01_Utf8.l1 k s (i : Int) (n : Int) least (r : Int) (j : Int)) false := by
  refine Ev.step (fun k => by rw [tocsinref01_Utf8.l1]) ?_
  have e1 := wr_add i j (by omega)
  rw [e1]
  have h1 : ((j : Int) ≤ (n : Int)) := by omega
  by_cases hlt : i + j < s.size
  · have hb := byt_lt s (i + j)
    have e2 := and192_n (byt s (i + j)) hb
    rw [bt_byt, e2]
    clear e2
    have h2 : ¬ (((i + j : Nat) : Int) ≥ (s.size : Int)) := by omega
    have h3 : (0 : Int) ≤ ((i + j : Nat) : Int) := by omega
    have h4 : ((i + j : Nat) : Int) < (s.size : Int) := by omega
    have h5 : ¬ ((byt s (i + j) / 64 * 64 : Nat) : Int) = 128 := by have := hc hlt; omega
    simp only [h1, h2, h3, h4, h5, if_true, if_false]
    exact Ev.now _
  · have h2 : (((i + j : Nat) : Int) ≥ (s.size : Int)) := by omega
    simp only [h1, h2, if_true]
    exact Ev.now _
theorem u_end (i n r j least : Nat) (R : Bool) (hi : i + n < s.size) (hn : n ≤ 3) (hjn : n < j)
    (h : if r < least ∨ r > 1114111 ∨ (55296 ≤ r ∧ r < 57344) then R = false else Ev (fun k => tocsinref01_Utf8.l0 k s ((i + n + 1 : Nat) : Int)) R) :
    Ev (fun k => tocsinref01_Utf8.l1 k s (i : Int) (n : Int) (least : Int) (r : Int) (j : Int)) R := by
  refine Ev.step (fun k => by rw [tocsinref01_Utf8.l1]) ?_
  have h1 : ¬ ((j : Int) ≤ (n : Int)) := by omega
  have e1 : wrap64 (wrap64 ((i : Int) + (n : Int)) + 1) = ((i + n + 1 : Nat) : Int) := by
    rw [wr_add i n (by omega)]; exact wr_add (i + n) 1 (by omega)
  rw [e1]
  simp only [h1, if_false]
  by_cases b1 : (r : Int) < (least : Int)
  · rw [if_pos (by omega)] at h; subst h
    simp only [b1, if_true]; exact Ev.now _
  · by_cases b2 : (r : Int) > 1114111
    · rw [if_pos (by omega)] at h; subst h
      simp only [b1, b2, if_true, if_false]; exact Ev.now _
    · by_cases b3 : (r : Int) ≥ 55296
      · by_cases b4 : (r : Int) < 57344
        · rw [if_pos (by omega)] at h; subst h
          simp only [b1, b2, b3, b4, if_true, if_false]; exact Ev.now _
        · rw [if_neg (by omega)] at h
          simp only [b1, b2, b3, b4, if_true, if_false]; exact h
      · rw [if_neg (by omega)] at h
        simp only [b1, b2, b3, if_false]; exact h

def uCode (s : ByteArray) (i n r0 : Nat) : Nat :=
  if n = 1 then r0 * 64 + byt s (i + 1) % 64 else if n = 2 then (r0 * 64 + byt s (i + 1) % 64) * 64 + byt s (i + 2) % 64 else ((r0 * 64 + byt s (i + 1) % 64) * 64 + byt s (i + 2) % 64) * 64 + byt s (i + 3) % 64
def uBad (r least : Nat) : Prop := r < least ∨ r > 1114111 ∨ (55296 ≤ r ∧ r < 57344)
def uTail (s : ByteArray) (i n : Nat) : Prop := ∀ j, 1 ≤ j → j ≤ n → i + j < s.size ∧ byt s (i + j) / 64 = 2
theorem u_run (i n r0 least : Nat) (R : Bool) (hi : i < s.size) (hn1 : 1 ≤ n) (hn : n ≤ 3) (hr : r0 < 64)
    (hg : uTail s i n → ¬ uBad (uCode s i n r0) least → Ev (fun k => tocsinref01_Utf8.l0 k s ((i + n + 1 : Nat) : Int)) R)
    (hb : ¬ (uTail s i n ∧ ¬ uBad (uCode s i n r0) least) → R = false) :
    Ev (fun k => tocsinref01_Utf8.l1 k s (i : Int) (n : Int) (least : Int) (r0 : Int) ((1 : Nat) : Int)) R := by
  have f1 : byt s (i + 1) % 64 < 64 := Nat.mod_lt _ (by omega)
  have f2 : byt s (i + 2) % 64 < 64 := Nat.mod_lt _ (by omega)
  have f3 : byt s (i + 3) % 64 < 64 := Nat.mod_lt _ (by omega)
  have fin : ∀ r j, r = uCode s i n r0 → n < j → uTail s i n → Ev (fun k => tocsinref01_Utf8.l1 k s (i : Int) (n : Int) (least : Int) (r : Int) (j : Int)) R := by
    intro r j hrr hj ht
    refine u_end s hs i n r j least R (ht n hn1 (Nat.le_refl _)).1 hn hj ?_
    split
    · rename_i h; exact hb (fun hh => hh.2 (by unfold uBad; rw [← hrr]; exact h))
    · rename_i h; exact hg ht (by unfold uBad; rw [← hrr]; exact h)
  by_cases c1 : i + 1 < s.size ∧ byt s (i + 1) / 64 = 2
  · refine u_go s hs i n r0 1 least R (by omega) hn (by omega) hn1 c1.1 c1.2 (by omega) ?_
    by_cases n1 : n = 1
    · exact fin _ 2 (by simp [uCode, n1]) (by omega) (fun j a b => by obtain rfl : j = 1 := by omega
                                                                      exact c1)
    · by_cases c2 : i + 2 < s.size ∧ byt s (i + 2) / 64 = 2
      · refine u_go s hs i n _ 2 least R (by omega) hn (by omega) (by omega) c2.1 c2.2 (by omega) ?_
        by_cases n2 : n = 2
        · exact fin _ 3 (by simp [uCode, n2]) (by omega) (fun j a b => by rcases (show j = 1 ∨ j = 2 by omega) with rfl | rfl <;> assumption)
        · by_cases c3 : i + 3 < s.size ∧ byt s (i + 3) / 64 = 2
          · refine u_go s hs i n _ 3 least R (by omega) hn (by omega) (by omega) c3.1 c3.2 (by omega) ?_
            exact fin _ 4 (by simp [uCode, n1, n2]) (by omega) (fun j a b => by rcases (show j = 1 ∨ j = 2 ∨ j = 3 by omega) with rfl | rfl | rfl <;> assumption)
          · rw [hb (fun hh => c3 (hh.1 3 (by omega) (by omega)))]
            exact u_bad s hs i n _ 3 least (by omega) hn (by omega) (fun hl hc => c3 ⟨hl, hc⟩)
      · rw [hb (fun hh => c2 (hh.1 2 (by omega) (by omega)))]
        exact u_bad s hs i n _ 2 least (by omega) hn (by omega) (fun hl hc => c2 ⟨hl, hc⟩)
  · rw [hb (fun hh => c1 (hh.1 1 (by omega) (by omega)))]
    exact u_bad s hs i n _ 1 least (by omega) hn (by omega) (fun hl hc => c1 ⟨hl, hc⟩)

omit hs in
/-- What the library's decoder says of a lead byte, in the reference's words. -/
theorem dec_lead (i n least : Nat) (hi : i < s.size) (h : (194 ≤ byt s i ∧ byt s i < 224 ∧ n = 1 ∧ least = 128) ∨ (224 ≤ byt s i ∧ byt s i < 240 ∧ n = 2 ∧ least = 2048) ∨ (240 ≤ byt s i ∧ byt s i < 245 ∧ n = 3 ∧ least = 65536))
    (r0 : Nat) (hr0 : r0 = if n = 1 then byt s i % 32 else if n = 2 then byt s i % 16 else byt s i % 8) :
    (uTail s i n → ¬ uBad (uCode s i n r0) least → ¬ ((Lib.decodeL (s.data.toList.drop i)).1 = 65533 ∧ (Lib.decodeL (s.data.toList.drop i)).2 = 1) ∧ (Lib.decodeL (s.data.toList.drop i)).2 = n + 1) ∧
    (¬ (uTail s i n ∧ ¬ uBad (uCode s i n r0) least) → (Lib.decodeL (s.data.toList.drop i)).1 = 65533 ∧ (Lib.decodeL (s.data.toList.drop i)).2 = 1) := by
  have hlen : (s.data.toList.drop i).length = s.size - i := by rw [List.length_drop, data_length]
  rw [Lib.decodeL_N, hlen, byt_drop, byt_drop, byt_drop, byt_drop]
  have p1 := byt_lt s (i + 1)
  have p2 := byt_lt s (i + 2)
  have p3 := byt_lt s (i + 3)
  have p0 := byt_lt s i
  simp only [Nat.add_zero]
  have ht : uTail s i n ↔ (1 ≤ n → 1 < s.size - i ∧ byt s (i + 1) / 64 = 2) ∧ (2 ≤ n → 2 < s.size - i ∧ byt s (i + 2) / 64 = 2) ∧ (3 ≤ n → 3 < s.size - i ∧ byt s (i + 3) / 64 = 2) := by
    have hn : n ≤ 3 := by omega
    constructor
    · intro hh
      exact ⟨fun hq => ⟨by have := (hh 1 (by omega) hq).1; omega, (hh 1 (by omega) hq).2⟩, fun hq => ⟨by have := (hh 2 (by omega) hq).1; omega, (hh 2 (by omega) hq).2⟩, fun hq => ⟨by have := (hh 3 (by omega) hq).1; omega, (hh 3 (by omega) hq).2⟩⟩
    · rintro ⟨h1, h2, h3⟩ j j1 j2
      rcases (show j = 1 ∨ j = 2 ∨ j = 3 by omega) with rfl | rfl | rfl
      · exact ⟨by have := (h1 j2).1; omega, (h1 j2).2⟩
      · exact ⟨by have := (h2 j2).1; omega, (h2 j2).2⟩
      · exact ⟨by have := (h3 j2).1; omega, (h3 j2).2⟩
  rw [ht]
  clear ht hlen
  unfold uBad uCode
  generalize byt s i = b0 at *
  generalize byt s (i + 1) = b1 at *
  generalize byt s (i + 2) = b2 at *
  generalize byt s (i + 3) = b3 at *
  generalize s.size - i = m at *
  rcases h with ⟨h1, h2, rfl, rfl⟩ | ⟨h1, h2, rfl, rfl⟩ | ⟨h1, h2, rfl, rfl⟩
  · simp only [if_true] at hr0 ⊢
    subst hr0
    unfold Lib.decodeN
    have k0 : ¬ b0 < 128 := by omega
    have k1 : b0 / 32 = 6 := by omega
    have k2 : ¬ b0 / 16 = 14 := by omega
    have k3 : ¬ b0 / 8 = 30 := by omega
    simp only [k0, k1, k2, k3, true_and, false_and, if_false]
    split <;> (try split) <;> constructor <;> intros <;> omega
  · simp only [show ¬ (2 = 1) by omega, if_true, if_false] at hr0 ⊢
    subst hr0
    unfold Lib.decodeN
    have k0 : ¬ b0 < 128 := by omega
    have k1 : ¬ b0 / 32 = 6 := by omega
    have k2 : b0 / 16 = 14 := by omega
    have k3 : ¬ b0 / 8 = 30 := by omega
    simp only [k0, k1, k2, k3, true_and, false_and, if_false]
    split <;> (try split) <;> constructor <;> intros <;> omega
  · simp only [show ¬ (3 = 1) by omega, show ¬ (3 = 2) by omega, if_false] at hr0 ⊢
    subst hr0
    unfold Lib.decodeN
    have k0 : ¬ b0 < 128 := by omega
    have k1 : ¬ b0 / 32 = 6 := by omega
    have k2 : ¬ b0 / 16 = 14 := by omega
    have k3 : b0 / 8 = 30 := by omega
    simp only [k0, k1, k2, k3, true_and, false_and, if_false]
    split <;> (try split) <;> constructor <;> intros <;> omega

theorem utf8_ev : ∀ (d i : Nat), i + d = s.size → Ev (fun k => tocsinref01_Utf8.l0 k s (i : Int)) (Lib.validD (s.data.toList.drop i)) := by
  intro d
  induction d using Nat.strongRecOn with
  | _ d ih =>
  intro i h
  refine Ev.step (fun k => by rw [tocsinref01_Utf8.l0]) ?_
  by_cases hi : i < s.size
  · have h1 : (i : Int) < (s.size : Int) := by omega
    have h0 : (0 : Int) ≤ i := by omega
    have hb := byt_lt s i
    have ew := wr64 (byt s i) (by omega)
    rw [bt_byt, ew]
    simp only [h1, h0, if_true]
    have hl : i < s.data.toList.length := by rw [data_length]; exact hi
    have hne : s.data.toList.drop i ≠ [] := by rw [List.drop_eq_getElem_cons hl]; simp
    have hrun : ∀ n r0 least : Nat, ((194 ≤ byt s i ∧ byt s i < 224 ∧ n = 1 ∧ least = 128) ∨ (224 ≤ byt s i ∧ byt s i < 240 ∧ n = 2 ∧ least = 2048) ∨ (240 ≤ byt s i ∧ byt s i < 245 ∧ n = 3 ∧ least = 65536)) →
        r0 = (if n = 1 then byt s i % 32 else if n = 2 then byt s i % 16 else byt s i % 8) → Ev (fun k => tocsinref01_Utf8.l1 k s (i : Int) (n : Int) (least : Int) (r0 : Int) ((1 : Nat) : Int)) (Lib.validD (s.data.toList.drop i)) := by
      intro n r0 least hcl hr0
      obtain ⟨hg, hbad⟩ := dec_lead s i n least hi hcl r0 hr0
      refine u_run s hs i n r0 least _ hi (by omega) (by omega) (by have : r0 < 32 := by (rw [hr0]; repeat' split) <;> omega
                                                                    omega) (fun ht hu => ?_) (fun hnot => ?_)
      · obtain ⟨g1, g2⟩ := hg ht hu
        rw [Lib.validD_step _ hne, if_neg g1, g2, List.drop_drop]
        have hlt := (ht n (by omega) (Nat.le_refl _)).1
        exact ih (d - (n + 1)) (by omega) (i + n + 1) (by omega)
      · rw [Lib.validD_step _ hne, if_pos (hbad hnot)]
    by_cases a : byt s i < 128
    · have a1 : ((byt s i : Nat) : Int) < 128 := by omega
      simp only [a1, if_true, wrap_succ i (by omega)]
      have hby : (s.data.toList[i]'hl).toNat < 128 := by
        have : byt s i = (s.data.toList[i]'hl).toNat := by unfold byt; rw [List.getD_eq_getElem?_getD, List.getElem?_eq_getElem hl]; rfl
        omega
      rw [List.drop_eq_getElem_cons hl, Lib.validD_cons _ _ hby]
      exact ih (d - 1) (by omega) (i + 1) (by omega)
    · have a1 : ¬ ((byt s i : Nat) : Int) < 128 := by omega
      have bad : ((128 ≤ byt s i ∧ byt s i < 194) ∨ (245 ≤ byt s i ∧ byt s i < 256)) → Lib.validD (s.data.toList.drop i) = false := by
        intro hcl
        have hd := Lib.decodeN_bad (s.data.toList.drop i).length (byt s i) (byt s (i + 1)) (byt s (i + 2)) (byt s (i + 3)) hcl
        rw [Lib.validD_step _ hne, Lib.decodeL_N, byt_drop, byt_drop, byt_drop, byt_drop, Nat.add_zero, hd]
        rfl
      by_cases b : byt s i < 194
      · have b1 : ¬ ((byt s i : Nat) : Int) ≥ 194 := by omega
        simp only [a1, b1, if_false]
        refine Ev.step (fun k => by rw [tocsinref01_Utf8.j1]) ?_
        have b2 : ¬ ((byt s i : Nat) : Int) ≥ 224 := by omega
        simp only [b2, Bool.false_eq_true, if_false]
        refine Ev.step (fun k => by rw [tocsinref01_Utf8.j2]) ?_
        have b3 : ¬ ((byt s i : Nat) : Int) ≥ 240 := by omega
        simp only [b3, Bool.false_eq_true, if_false]
        rw [bad (.inl ⟨by omega, b⟩)]; exact Ev.now _
      · have b1 : ((byt s i : Nat) : Int) ≥ 194 := by omega
        simp only [a1, b1, if_true, if_false]
        refine Ev.step (fun k => by rw [tocsinref01_Utf8.j1]) ?_
        by_cases c : byt s i < 224
        · have c1 : ((byt s i : Nat) : Int) < 224 := by omega
          simp only [c1, decide_true, if_true]
          rw [and31_n _ hb]
          refine Ev.step (fun k => by rw [tocsinref01_Utf8.j3]) ?_
          exact hrun 1 _ 128 (.inl ⟨by omega, c, rfl, rfl⟩) rfl
        · have c1 : ¬ ((byt s i : Nat) : Int) < 224 := by omega
          have c2 : ((byt s i : Nat) : Int) ≥ 224 := by omega
          simp only [c1, c2, decide_false, Bool.false_eq_true, if_true, if_false]
          refine Ev.step (fun k => by rw [tocsinref01_Utf8.j2]) ?_
          by_cases e : byt s i < 240
          · have e1 : ((byt s i : Nat) : Int) < 240 := by omega
            simp only [e1, decide_true, if_true]
            rw [and15_n _ hb]
            refine Ev.step (fun k => by rw [tocsinref01_Utf8.j3]) ?_
            exact hrun 2 _ 2048 (.inr (.inl ⟨by omega, e, rfl, rfl⟩)) rfl
          · have e1 : ¬ ((byt s i : Nat) : Int) < 240 := by omega
            have e2 : ((byt s i : Nat) : Int) ≥ 240 := by omega
            simp only [e1, e2, decide_false, Bool.false_eq_true, if_true, if_false]
            by_cases f : byt s i < 245
            · have f1 : ((byt s i : Nat) : Int) < 245 := by omega
              simp only [f1, if_true]
              rw [and7i_n _ hb]
              refine Ev.step (fun k => by rw [tocsinref01_Utf8.j3]) ?_
              exact hrun 3 _ 65536 (.inr (.inr ⟨by omega, f, rfl, rfl⟩)) rfl
            · have f1 : ¬ ((byt s i : Nat) : Int) < 245 := by omega
              simp only [f1, if_false]
              rw [bad (.inr ⟨by omega, hb⟩)]; exact Ev.now _
  · have h1 : ¬ (i : Int) < (s.size : Int) := by omega
    simp only [h1, if_false]
    rw [List.drop_eq_nil_of_le (by rw [data_length]; omega)]
    exact Ev.now _
theorem utf8_f : Ev (fun k => tocsinref01_Utf8.f k s) (Lib.validD s.data.toList) := utf8_ev s hs s.size 0 (by omega)
end
end Go.Proofs.YtoncpeadbhgmaaaGreatDoor.G

set_option linter.unusedVariables false
set_option linter.unusedSimpArgs false
namespace Go.Proofs.YtoncpeadbhgmaaaGreatDoor.G
open Go.RowKit Go.Sort Go.Proofs.YtoncpeadbhgmaaaGreatDoorW.PrintWords

theorem rletter_f (c : Int) : tocsinref04_letter.f c = some (lett c) := by
  unfold tocsinref04_letter.f lett
  repeat' split
  all_goals (simp_all; try omega)
theorem rdigit_f (c : Int) : tocsinref04_digit.f c = some (digt c) := by
  unfold tocsinref04_digit.f digt
  split <;> simp_all <;> omega
theorem lett_digt (c : Int) (h : lett c = true) : digt c = false := by
  unfold lett at h; unfold digt
  simp only [Bool.or_eq_true, Bool.and_eq_true, decide_eq_true_eq, beq_iff_eq] at h
  simp only [Bool.and_eq_false_iff, decide_eq_false_iff_not]
  omega

theorem rname_l0 (s : ByteArray) (hs : s.size ≤ 140737488355328) : ∀ d i : Nat, i + d = s.size → 1 ≤ i →
    Ev (fun k => tocsinref04_Name.l0 k s (s.size : Int) (i : Int)) (((bytesOf s).drop i).all (nameByte false))
  | 0, i, h, hi => by
    refine Ev.step (fun k => by rw [tocsinref04_Name.l0]) ?_
    have h1 : ¬ ((i : Int) < (s.size : Int)) := by omega
    simp only [h1, if_false]
    rw [all_end _ _ _ (by omega)]; exact Ev.now _
  | d + 1, i, h, hi => by
    refine Ev.step (fun k => by rw [tocsinref04_Name.l0]) ?_
    have h1 : ((i : Int) < (s.size : Int)) := by omega
    have h0 : (0 : Int) ≤ i := by omega
    have h2 : ¬ (i : Int) = 0 := by omega
    simp only [h1, h0, h2, if_true, if_false, rletter_f, rdigit_f, Option.bind_some, wrap_succ i (by omega)]
    rw [all_step _ _ _ (by omega)]
    simp only [nameByte, Bool.false_and, Bool.or_false]
    have ih := rname_l0 s hs d (i + 1) (by omega) (by omega)
    cases h3 : lett (bt s (i : Int)) with
    | true => simpa using ih
    | false =>
      cases h4 : digt (bt s (i : Int)) with
      | true => simpa using ih
      | false => simp; exact Ev.now _
theorem rname_f (s : ByteArray) (hs : s.size ≤ 140737488355328) : Ev (fun k => tocsinref04_Name.f k s) (namedF s 64 false) := by
  have hlen : s.toList.length = s.size := by rw [ByteArray.toList_eq, data_length]
  unfold tocsinref04_Name.f namedF
  by_cases h0 : s.size = 0
  · have he : s.toList = [] := List.eq_nil_of_length_eq_zero (by omega)
    simp only [he, if_true]
    refine Ev.step (fun k => by rw [tocsinref04_Name.j0]) ?_
    simp only [h0, if_true]
    exact Ev.now _
  · have he : ¬ s.toList = [] := fun h => by rw [h] at hlen; simp at hlen; omega
    simp only [he, if_false]
    refine Ev.step (fun k => by rw [tocsinref04_Name.j0]) ?_
    by_cases h1 : s.size ≤ 64
    · have h2 : ¬ (s.size : Int) > 64 := by omega
      have h3 : (s.size : Int) ≤ 64 := by omega
      have h4 : 0 < s.size := by omega
      simp only [h2, h3, h4, decide_false, decide_true, Bool.false_eq_true, if_false, Bool.true_and]
      refine Ev.step (fun k => by rw [tocsinref04_Name.l0]) ?_
      have h5 : (0 : Int) < (s.size : Int) := by omega
      have e0 := all_step s (nameByte false) 0 h4
      rw [List.drop_zero] at e0
      rw [e0]
      have h6 : (0 : Int) ≤ 0 := by omega
      simp only [h5, h6, if_true, rletter_f, Option.bind_some, nameByte, Bool.false_and, Bool.or_false]
      change Ev _ (!digt (bt s 0) && ((lett (bt s 0) || digt (bt s 0)) && _))
      cases h7 : lett (bt s 0) with
      | true =>
        rw [lett_digt _ h7]
        have ih := rname_l0 s hs (s.size - 1) 1 (by omega) (by omega)
        have e1 := wrap_succ 0 (by omega)
        simp only [Int.natCast_zero] at e1
        simp only [if_true, Bool.true_or, Bool.not_false, Bool.true_and]
        rw [show wrap64 (0 + 1) = ((1 : Nat) : Int) from e1]
        exact ih
      | false =>
        cases h8 : digt (bt s 0) <;> simp <;> exact Ev.now _
    · have h2 : (s.size : Int) > 64 := by omega
      have h3 : ¬ (s.size : Int) ≤ 64 := by omega
      simp only [h2, h3, decide_true, decide_false, if_true, Bool.and_false, Bool.false_and]
      exact Ev.now _
theorem name_f (s : ByteArray) (hs : s.size ≤ 140737488355328) : labels_Name.f s = some (namedF s 64 false) := by
  unfold labels_Name.f labels_named.f
  rw [if_pos (by omega)]; rfl

/-- What is wrong of a value. -/
def valueE (s : ByteArray) : Int := if s.size = 0 then 41 else if 256 < s.size then 4 else if Lib.validD s.data.toList then 0 else 12
theorem value_f (s : ByteArray) (hs : s.size ≤ 140737488355328) : labels_value.f s = some (valueE s) := by
  have hlen : s.toList.length = s.size := by rw [ByteArray.toList_eq, data_length]
  unfold labels_value.f valueE utf8_ValidString.f
  by_cases h0 : s.size = 0
  · have he : s.toList = [] := List.eq_nil_of_length_eq_zero (by omega)
    rw [if_pos he, if_pos h0]
  · have he : ¬ s.toList = [] := fun h => by rw [h] at hlen; simp at hlen; omega
    rw [if_neg he, if_neg h0]
    by_cases h1 : 256 < s.size
    · rw [if_pos (by omega), if_pos h1]
    · rw [if_neg (by omega), if_neg h1, if_pos (by omega)]
      simp only [Option.bind_some]
      split <;> rfl
/-- What is wrong of a label, the one ahead aside. -/
def oneE (x : S89) : Int := if namedF x.f0 64 false then valueE x.f1 else 40
theorem one_f (x : S89) (h0 : x.f0.size ≤ 140737488355328) (h1 : x.f1.size ≤ 140737488355328) : Ev (fun k => tocsinref04_one.f k x.f0 x.f1) (oneE x) := by
  have hlen : x.f1.toList.length = x.f1.size := by rw [ByteArray.toList_eq, data_length]
  unfold tocsinref04_one.f oneE
  refine Ev.bind (rname_f x.f0 h0) ?_
  cases namedF x.f0 64 false with
  | false => simp; exact Ev.now _
  | true =>
    simp only [if_true]
    unfold valueE
    by_cases hz : x.f1.size = 0
    · have he : x.f1.toList = [] := List.eq_nil_of_length_eq_zero (by omega)
      simp only [he, hz, if_true]; exact Ev.now _
    · have he : ¬ x.f1.toList = [] := fun h => by rw [h] at hlen; simp at hlen; omega
      simp only [he, hz, if_false]
      by_cases h2 : 256 < x.f1.size
      · have h3 : (x.f1.size : Int) > 256 := by omega
        simp only [h2, h3, if_true]; exact Ev.now _
      · have h3 : ¬ (x.f1.size : Int) > 256 := by omega
        simp only [h2, h3, if_false]
        refine Ev.bind (utf8_f x.f1 h1) ?_
        cases Lib.validD x.f1.data.toList <;> simp <;> exact Ev.now _

/-- Texts of a size that is there. -/
def WfL (l : List S89) : Prop := ∀ x ∈ l, x.f0.size ≤ 140737488355328 ∧ x.f1.size ≤ 140737488355328
/-- From place i on: what is wrong of a label set, and of which label. -/
def rightG : Option S89 → Nat → List S89 → Int × Int
  | _, _, [] => (0, 0)
  | p, i, x :: l => if oneE x = 0 then (match p with | some y => if cmpB y.f0 x.f0 < 0 then rightG (some x) (i + 1) l else (3, (i : Int)) | none => rightG (some x) (i + 1) l) else (oneE x, (i : Int))
def rightF (l : List S89) : Int × Int := if 16 < l.length then (8, 0) else rightG none 0 l
def prevOf (l : List S89) (i : Nat) : Option S89 := if i = 0 then none else l[i - 1]?
theorem prev_succ (l : List S89) (i : Nat) (h : i < l.length) : prevOf l (i + 1) = some l[i] := by simp [prevOf, h]
theorem right_l0 (l : List S89) (hw : WfL l) (hl : l.length ≤ 16) : ∀ d i : Nat, i + d = l.length →
    Ev (fun k => labels_Right.l0 k l l (l.length : Int) (i : Int)) (rightG (prevOf l i) i (l.drop i))
  | 0, i, h => by
    refine Ev.step (fun k => by rw [labels_Right.l0]) ?_
    have h1 : ¬ ((i : Int) < (l.length : Int)) := by omega
    rw [List.drop_eq_nil_of_le (by omega)]
    simp only [h1, if_false, rightG]
    exact Ev.now _
  | d + 1, i, h => by
    have hlt : i < l.length := by omega
    have h1 : ((i : Int) < (l.length : Int)) := by omega
    have h0 : (0 : Int) ≤ i := by omega
    have ih := right_l0 l hw hl d (i + 1) (by omega)
    have hx := hw l[i] (List.getElem_mem hlt)
    refine Ev.step (fun k => by rw [labels_Right.l0]) ?_
    rw [List.drop_eq_getElem_cons hlt, rd_at _ _ hlt]
    simp only [h1, h0, if_true, name_f _ hx.1, value_f _ hx.2, Option.bind_some, rightG]
    rw [prev_succ l i hlt] at ih
    unfold oneE
    cases hn : namedF l[i].f0 64 false with
    | false => simp; exact Ev.now _
    | true =>
      simp only [if_true]
      by_cases hv : valueE l[i].f1 = 0
      · simp only [hv, if_true]
        by_cases hz : i = 0
        · subst hz
          have h2 : ¬ ((0 : Nat) : Int) > 0 := by omega
          simp only [h2, if_false, wrap_succ 0 (by omega)]
          exact ih
        · have h2 : (i : Int) > 0 := by omega
          have e1 : wrap64 ((i : Int) - 1) = ((i - 1 : Nat) : Int) := by rw [wrap_in _ (by omega) (by omega)]; omega
          have h3 : (0 : Int) ≤ ((i - 1 : Nat) : Int) := by omega
          have h4 : ((i - 1 : Nat) : Int) < (l.length : Int) := by omega
          rw [e1, rd_at l (i - 1) (by omega)]
          simp only [h2, h3, h4, if_true, less_cmp, decide_eq_true_eq, wrap_succ i (by omega)]
          have hp : prevOf l i = some l[i - 1] := by unfold prevOf; rw [if_neg hz, List.getElem?_eq_getElem (by omega)]
          rw [hp]
          by_cases hc : cmpB l[i - 1].f0 l[i].f0 < 0
          · simp only [hc, if_true]; exact ih
          · simp only [hc, if_false]; exact Ev.now _
      · simp only [hv, if_false]; exact Ev.now _
theorem right_f (l : List S89) (hw : WfL l) : Ev (fun k => labels_Right.f k l) (rightF l) := by
  unfold labels_Right.f rightF
  by_cases h : 16 < l.length
  · have h1 : (l.length : Int) > 16 := by omega
    simp only [h, h1, if_true]; exact Ev.now _
  · have h1 : ¬ (l.length : Int) > 16 := by omega
    simp only [h, h1, if_false]
    exact right_l0 l hw (by omega) l.length 0 (by omega)
theorem rright_l0 (l : List S89) (hw : WfL l) (hl : l.length ≤ 16) : ∀ d i : Nat, i + d = l.length →
    Ev (fun k => tocsinref04_Right.l0 k l l (l.length : Int) (i : Int)) (rightG (prevOf l i) i (l.drop i))
  | 0, i, h => by
    refine Ev.step (fun k => by rw [tocsinref04_Right.l0]) ?_
    have h1 : ¬ ((i : Int) < (l.length : Int)) := by omega
    rw [List.drop_eq_nil_of_le (by omega)]
    simp only [h1, if_false, rightG]
    exact Ev.now _
  | d + 1, i, h => by
    have hlt : i < l.length := by omega
    have h1 : ((i : Int) < (l.length : Int)) := by omega
    have h0 : (0 : Int) ≤ i := by omega
    have ih := rright_l0 l hw hl d (i + 1) (by omega)
    have hx := hw l[i] (List.getElem_mem hlt)
    refine Ev.step (fun k => by rw [tocsinref04_Right.l0]) ?_
    rw [List.drop_eq_getElem_cons hlt, rd_at _ _ hlt]
    simp only [h1, h0, if_true, rightG]
    rw [prev_succ l i hlt] at ih
    refine Ev.bind (one_f _ hx.1 hx.2) ?_
    by_cases hv : oneE l[i] = 0
    · simp only [hv, if_true]
      by_cases hz : i = 0
      · subst hz
        have h2 : ¬ ((0 : Nat) : Int) > 0 := by omega
        simp only [h2, if_false, wrap_succ 0 (by omega)]
        exact ih
      · have h2 : (i : Int) > 0 := by omega
        have e1 : wrap64 ((i : Int) - 1) = ((i - 1 : Nat) : Int) := by rw [wrap_in _ (by omega) (by omega)]; omega
        have h3 : (0 : Int) ≤ ((i - 1 : Nat) : Int) := by omega
        have h4 : ((i - 1 : Nat) : Int) < (l.length : Int) := by omega
        rw [e1, rd_at l (i - 1) (by omega)]
        simp only [h2, h3, h4, if_true, less_cmp, decide_eq_true_eq, wrap_succ i (by omega)]
        have hp : prevOf l i = some l[i - 1] := by unfold prevOf; rw [if_neg hz, List.getElem?_eq_getElem (by omega)]
        rw [hp]
        by_cases hc : cmpB l[i - 1].f0 l[i].f0 < 0
        · simp only [hc, if_true]; exact ih
        · simp only [hc, if_false]; exact Ev.now _
    · simp only [hv, if_false]; exact Ev.now _
theorem rright_f (l : List S89) (hw : WfL l) : Ev (fun k => tocsinref04_Right.f k l) (rightF l) := by
  unfold tocsinref04_Right.f rightF
  by_cases h : 16 < l.length
  · have h1 : (l.length : Int) > 16 := by omega
    simp only [h, h1, if_true]; exact Ev.now _
  · have h1 : ¬ (l.length : Int) > 16 := by omega
    simp only [h, h1, if_false]
    exact rright_l0 l hw (by omega) l.length 0 (by omega)
end Go.Proofs.YtoncpeadbhgmaaaGreatDoor.G

set_option linter.unusedVariables false
set_option linter.unusedSimpArgs false
namespace Go.Proofs.YtoncpeadbhgmaaaGreatDoor.G
open Go.RowKit Go.Sort Go.Proofs.YtoncpeadbhgmaaaGreatDoorW.PrintWords Go.Proofs.YtoncpeadbhgmaaaGreatDoorW.PrintLast Go.Proofs.YtoncpeadbhgmaaaGreatDoorW.PrintMore

theorem R_empty {α : Type} (d : Kd α) (e : Nat) (w : World) : d.R e (w.alloc (.cells #[] e)) w.heap.size (fun _ => True) (.slice (some ⟨w.heap.size, 0, none⟩) 0 0) [] := by
  refine ⟨fun _ _ => trivial, [], ?_, by simp, fun j p hj => by simp at hj⟩
  refine ⟨by simp, .inr ⟨w.heap.size, 0, #[], rfl, Nat.le_refl _, heap_alloc_new w _, Nat.le_refl _, by simp [maxLen], by simp, by simp⟩⟩

def slices_Clone_tocsin_api_Label_tocsin_api_Label.f (l0 : List S89) : Option (List S89) := if l0.length < 4398046511104 then some l0 else none
set_option maxHeartbeats 4000000 in
set_option maxRecDepth 100000 in
theorem slices_Clone_tocsin_api_Label_tocsin_api_Label.calls (A0 : Option Addr) (c0 : Nat) (l0 : List S89) (r : List S89) (w : World) (hr0 : Kd.C k89 w A0 l0.length l0) (hc0 : l0.length ≤ c0) (h : slices_Clone_tocsin_api_Label_tocsin_api_Label.f l0 = some r) :
    Calls Tryz.prog 74 #[.slice A0 l0.length c0] w fun e w' => ∃ v0_ : Value, e = .returned v0_ ∧ Kd.R k89 89 w' w.heap.size (fun _ => True) v0_ r ∧ Below w.heap.size w w' := by
  have hl : l0.length < 4398046511104 := by
    unfold slices_Clone_tocsin_api_Label_tocsin_api_Label.f at h
    split at h
    · assumption
    · cases h
  obtain rfl : l0 = r := by
    unfold slices_Clone_tocsin_api_Label_tocsin_api_Label.f at h
    rw [if_pos hl] at h; exact Option.some.inj h
  clear h
  cases A0 with
  | none =>
    have e0 : l0 = [] := by
      cases l0 with
      | nil => rfl
      | cons x l => obtain ⟨ad, e, _⟩ := at_T89 hr0 0 (by omega) (by simp); cases e
    subst e0
    have hn : ∀ W : World, (binOp .eql 39 (.slice none ([] : List S89).length c0) (.slice none 0 0)).run Tryz.prog W = .ok (.bool true) W := fun W => by rw [Lib.run_eql_slice_nil W _ _ _ _ _ _ _ Tryz.underlying39]; rfl
    simp only [List.length_nil] at hn
    go_enter Tryz.func74, Tryz.ntmps74
    go_wp2
    go_ret
    exact ⟨_, rfl, Kd.R_nil _ _ _ _ _, Below.refl _ _⟩
  | some a =>
    have hn : ∀ W : World, (binOp .eql 39 (.slice (some a) l0.length c0) (.slice none 0 0)).run Tryz.prog W = .ok (.bool false) W := fun W => by rw [Lib.run_eql_slice_nil W _ _ _ _ _ _ _ Tryz.underlying39]; rfl
    have HR0 := Aside0.mk hr0
    clear hr0
    have HB := Aside0.mk (below_alloc (Below.refl w.heap.size w) (.cells #[] 89))
    have HL := Aside0.mk hl
    clear hl
    go_enter Tryz.func74, Tryz.ntmps74
    go_wp2_with (first | (at_builtin; go_loud (refine Kd.R_append_rows k89 (w0 := w) w.heap.size rfl (.tmp 5) (.tmp 6) 39 89 (.agg #[(.string ⟨#[]⟩), (.string ⟨#[]⟩)]) 32 rfl Tryz.underlying39 info89 rfl (by decide) (by omega) (.slice (some ⟨w.heap.size, 0, none⟩) 0 0) ([] : List S89) l0 _ _ _ (fun _ => True) (fun _ => False) rfl rfl ?aO ?aR (fun _ _ h => h) (fun _ h => h.elim) ?aF ?aB ?aS ?aL ?_); (case aR => exact Kd.C_alloc HR0.out _); (case aB => exact HB.out); (case aF => exact (fun _ _ => trivial)); (case aO => exact R_empty _ _ _); (case aS => simp); (case aL => have := HL.out; simp; omega); intro v138 w3 ho hb hg hat; have HO := Aside0.mk ho; have HB1 := Aside0.mk hb; clear ho hb hg hat))
    go_ret
    exact ⟨_, rfl, HO.out, HB1.out⟩

def slices_Clone_string_string.f (l0 : List ByteArray) : Option (List ByteArray) := if l0.length < 8796093022208 then some l0 else none
set_option maxHeartbeats 4000000 in
set_option maxRecDepth 100000 in
theorem slices_Clone_string_string.calls (A0 : Option Addr) (c0 : Nat) (l0 : List ByteArray) (r : List ByteArray) (w : World) (hr0 : Kd.C Kd.string w A0 l0.length l0) (hc0 : l0.length ≤ c0) (h : slices_Clone_string_string.f l0 = some r) :
    Calls Tryz.prog 109 #[.slice A0 l0.length c0] w fun e w' => ∃ v0_ : Value, e = .returned v0_ ∧ Kd.R Kd.string 9 w' w.heap.size (fun _ => True) v0_ r ∧ Below w.heap.size w w' := by
  have hl : l0.length < 8796093022208 := by
    unfold slices_Clone_string_string.f at h
    split at h
    · assumption
    · cases h
  obtain rfl : l0 = r := by
    unfold slices_Clone_string_string.f at h
    rw [if_pos hl] at h; exact Option.some.inj h
  clear h
  cases A0 with
  | none =>
    have e0 : l0 = [] := by
      cases l0 with
      | nil => rfl
      | cons x l => obtain ⟨ad, e, _⟩ := Kd.at_string hr0 0 (by omega) (by simp); cases e
    subst e0
    have hn : ∀ W : World, (binOp .eql 23 (.slice none ([] : List ByteArray).length c0) (.slice none 0 0)).run Tryz.prog W = .ok (.bool true) W := fun W => by rw [Lib.run_eql_slice_nil W _ _ _ _ _ _ _ Tryz.underlying23]; rfl
    simp only [List.length_nil] at hn
    go_enter Tryz.func109, Tryz.ntmps109
    go_wp2
    go_ret
    exact ⟨_, rfl, Kd.R_nil _ _ _ _ _, Below.refl _ _⟩
  | some a =>
    have hn : ∀ W : World, (binOp .eql 23 (.slice (some a) l0.length c0) (.slice none 0 0)).run Tryz.prog W = .ok (.bool false) W := fun W => by rw [Lib.run_eql_slice_nil W _ _ _ _ _ _ _ Tryz.underlying23]; rfl
    have HR0 := Aside0.mk hr0
    clear hr0
    have HB := Aside0.mk (below_alloc (Below.refl w.heap.size w) (.cells #[] 9))
    have HL := Aside0.mk hl
    clear hl
    go_enter Tryz.func109, Tryz.ntmps109
    go_wp2_with (first | (at_builtin; go_loud (refine Kd.R_append_rows Kd.string (w0 := w) w.heap.size rfl (.tmp 5) (.tmp 6) 23 9 (.string ⟨#[]⟩) 16 rfl Tryz.underlying23 info9 rfl (by decide) (by omega) (.slice (some ⟨w.heap.size, 0, none⟩) 0 0) ([] : List ByteArray) l0 _ _ _ (fun _ => True) (fun _ => False) rfl rfl ?aO ?aR (fun _ _ h => h) (fun _ h => h.elim) ?aF ?aB ?aS ?aL ?_); (case aR => exact Kd.C_alloc HR0.out _); (case aB => exact HB.out); (case aF => exact (fun _ _ => trivial)); (case aO => exact R_empty _ _ _); (case aS => simp); (case aL => have := HL.out; simp; omega); intro v138 w3 ho hb hg hat; have HO := Aside0.mk ho; have HB1 := Aside0.mk hb; clear ho hb hg hat))
    go_ret
    exact ⟨_, rfl, HO.out, HB1.out⟩

end Go.Proofs.YtoncpeadbhgmaaaGreatDoor.G

namespace Go.Proofs.YtoncpeadbhgmaaaGreatDoor.G
open Go.RowKit Go.Proofs.YtoncpeadbhgmaaaGreatDoorW.PrintWords Go.Proofs.YtoncpeadbhgmaaaGreatDoorW.PrintLast Go.Proofs.YtoncpeadbhgmaaaGreatDoorW.PrintMore
attribute [local go_sem] max2_int min2_int max_two min_two max_three min_three max_four min_four   -- for this text's walks alone
set_option linter.unusedVariables false
set_option linter.unusedSimpArgs false

def labels_Without.f (k : Nat) (l0 : List (S89)) (l1 : List ByteArray) : Option ((List (S89)) × Int) := (labels_right.f k l0).bind fun t114 => (if t114 = 0 then ((labels_pick.f k l0 false l1).bind fun t115 => (some (t115, 0))) else (some (([] : List (S89)), t114)))
theorem labels_Without.mono : ∀ a0 a1 k, LeO (labels_Without.f k a0 a1) (labels_Without.f (k + 1) a0 a1) := by
  intro a0 a1 k
  unfold labels_Without.f
  repeat' first
      | (with_reducible exact labels_pick.mono _ _ _ _)
      | (with_reducible exact labels_right.mono _ _)
      | (with_reducible exact LeO.refl _)
      | (with_reducible exact LeO.none _)
      | (with_reducible refine LeO.ite ?_ ?_)
      | (with_reducible refine LeO.bind ?_ (fun _ => ?_))
      | exact labels_pick.mono _ _ _ _
      | exact labels_right.mono _ _
      | exact LeO.none _
      | refine LeO.ite ?_ ?_
      | refine LeO.bind ?_ (fun _ => ?_)
set_option maxHeartbeats 8000000 in
set_option maxRecDepth 100000 in
theorem labels_Without.calls (k : Nat) (A0 : Option Addr) (c0 : Nat) (l0 : List (S89)) (A1 : Option Addr) (c1 : Nat) (l1 : List ByteArray) (r1 : List (S89)) (r2 : Int) (w : World) (hr0 : Kd.C k89 w A0 l0.length l0) (hc0 : l0.length ≤ c0) (hr1 : Kd.C Kd.string w A1 l1.length l1) (hc1 : l1.length ≤ c1) (hT : Tabs w) (h : labels_Without.f k l0 l1 = some (r1, r2)) :
    Calls Tryz.prog 108 #[.slice A0 l0.length c0, .slice A1 l1.length c1] w fun e w' => ∃ v0_ : Value, e = .returned (.tuple #[v0_, .int .i64 r2]) ∧ Kd.R k89 89 w' w.heap.size (fun _ => True) v0_ r1 ∧ Below w.heap.size w w' := by
  have HR0 := Aside0.mk hr0
  have HC0 := Aside0.mk hc0
  clear hr0 hc0
  have HR1 := Aside0.mk hr1
  have HC1 := Aside0.mk hc1
  clear hr1 hc1
  have HT := Aside0.mk hT
  clear hT
  have HB := Aside0.mk (Below.refl w.heap.size w)
  have H : ((labels_right.f k l0).bind fun t114 => (if t114 = 0 then ((labels_pick.f k l0 false l1).bind fun t115 => (some (t115, 0))) else (some (([] : List (S89)), t114)))) = some (r1, r2) := h
  clear h
  replace H := Option.bind_eq_some_iff.mp H
  obtain ⟨t114, A30, H⟩ := H
  replace H : (if t114 = 0 then ((labels_pick.f k l0 false l1).bind fun t115 => (some (t115, 0))) else (some (([] : List (S89)), t114))) = some (r1, r2) := H
  have A3 := Aside0.mk A30
  clear A30
  by_cases c4 : t114 = 0
  · rw [if_pos c4] at H
    have c4b0 : (t114 == 0) = true := beq_iff_eq.mpr c4
    have c4b1 : (t114 != 0) = false := bne_eq_false_iff_eq.mpr c4
    clear c4
    replace H := Option.bind_eq_some_iff.mp H
    obtain ⟨t115, A50, H⟩ := H
    replace H : (some (t115, 0)) = some (r1, r2) := H
    have A5 := Aside0.mk A50
    clear A50
    simp only [Option.some.injEq, Prod.mk.injEq] at H
    obtain ⟨rfl, rfl⟩ := H
    go_enter Tryz.func108, Tryz.ntmps108
    go_wp2_with (first | ((with_reducible refine gate_callee (f := 142) rfl ?_); refine goesL_ (some 8) rfl rfl Tryz.func142 (by kernel_rfl) rfl #[.slice A0 l0.length c0] rfl (by (try simp only [List.map_toArray, List.map_cons, List.map_nil]); first | done | rfl | (simp only [List.length_drop, List.length_take]; rfl)) ?_; (with_reducible refine (labels_right.calls k _ _ l0 t114 _ ?side1 ?side2 ?side3 A3.out).mono ?_); (case side1 => repeat (first | exact HR0.out | (with_reducible refine Kd.C_alloc ?_ _) | (with_reducible refine Kd.C_drewN ?_ _) | (with_reducible refine Kd.C_drew ?_))); (case side2 => exact HC0.out); (case side3 => first | exact HT.out | exact tabs_below HT.out (by repeat (first | (with_reducible first | exact HB.out | apply below_alloc | apply pw_below_drewN | apply below_drew1) | exact HB.out))); rintro e w6 ⟨rfl, hb⟩; refine ⟨_, rfl, ?_⟩; have n0_ := Aside0.mk (below_step (by repeat (first | (with_reducible first | exact HB.out | apply below_alloc | apply pw_below_drewN | apply below_drew1) | exact HB.out)) hb); clear HB; have HB := n0_; clear n0_; (try clear hb); (try clear hb2); (try clear hk); (try clear hi)) | ((with_reducible refine gate_callee (f := 151) rfl ?_); refine goesL_ (some 14) rfl rfl Tryz.func151 (by kernel_rfl) rfl #[.slice A0 l0.length c0, .bool false, .slice A1 l1.length c1] rfl (by (try simp only [List.map_toArray, List.map_cons, List.map_nil]); first | done | rfl | (simp only [List.length_drop, List.length_take]; rfl)) ?_; (with_reducible refine (labels_pick.calls k _ _ l0 false _ _ l1 t115 _ ?side1 ?side2 ?side3 ?side4 A5.out).mono ?_); (case side1 => repeat (first | exact (Kd.C_below HR0.out HB.out) | (with_reducible refine Kd.C_alloc ?_ _) | (with_reducible refine Kd.C_drewN ?_ _) | (with_reducible refine Kd.C_drew ?_))); (case side2 => exact HC0.out); (case side3 => repeat (first | exact (Kd.C_below HR1.out HB.out) | (with_reducible refine Kd.C_alloc ?_ _) | (with_reducible refine Kd.C_drewN ?_ _) | (with_reducible refine Kd.C_drew ?_))); (case side4 => exact HC1.out); rintro e w7 ⟨v116, rfl, ho0, hb⟩; refine ⟨_, rfl, ?_⟩; have n0_ := Aside0.mk (Kd.R_lower ho0 (below_size (by repeat (first | (with_reducible first | exact HB.out | apply below_alloc | apply pw_below_drewN | apply below_drew1) | exact HB.out)))); have n1_ := Aside0.mk (below_step (by repeat (first | (with_reducible first | exact HB.out | apply below_alloc | apply pw_below_drewN | apply below_drew1) | exact HB.out)) hb); clear HB; have HO117 := n0_; have HB := n1_; clear n0_ n1_; (try clear hb); (try clear hb2); (try clear hk); (try clear hi); (try clear ho0)))
    go_ret2
    exact ⟨_, by first | rfl | (simp [errW_none, errW_some] <;> rfl) | (simp [*, errW_none, errW_some] <;> rfl), by (with_reducible repeat (first | apply Kd.R_alloc | apply Kd.R_drewN | apply Kd.R_drew)); exact HO117.out, by repeat (first | (with_reducible first | exact HB.out | apply below_alloc | apply pw_below_drewN | apply below_drew1) | exact HB.out)⟩
  · rw [if_neg c4] at H
    have c4b0 : (t114 == 0) = false := beq_eq_false_iff_ne.mpr c4
    have c4b1 : (t114 != 0) = true := bne_iff_ne.mpr c4
    simp only [Option.some.injEq, Prod.mk.injEq] at H
    obtain ⟨rfl, rfl⟩ := H
    go_enter Tryz.func108, Tryz.ntmps108
    go_wp2_with (first | ((with_reducible refine gate_callee (f := 142) rfl ?_); refine goesL_ (some 8) rfl rfl Tryz.func142 (by kernel_rfl) rfl #[.slice A0 l0.length c0] rfl (by (try simp only [List.map_toArray, List.map_cons, List.map_nil]); first | done | rfl | (simp only [List.length_drop, List.length_take]; rfl)) ?_; (with_reducible refine (labels_right.calls k _ _ l0 t114 _ ?side1 ?side2 ?side3 A3.out).mono ?_); (case side1 => repeat (first | exact HR0.out | (with_reducible refine Kd.C_alloc ?_ _) | (with_reducible refine Kd.C_drewN ?_ _) | (with_reducible refine Kd.C_drew ?_))); (case side2 => exact HC0.out); (case side3 => first | exact HT.out | exact tabs_below HT.out (by repeat (first | (with_reducible first | exact HB.out | apply below_alloc | apply pw_below_drewN | apply below_drew1) | exact HB.out))); rintro e w8 ⟨rfl, hb⟩; refine ⟨_, rfl, ?_⟩; have n0_ := Aside0.mk (below_step (by repeat (first | (with_reducible first | exact HB.out | apply below_alloc | apply pw_below_drewN | apply below_drew1) | exact HB.out)) hb); clear HB; have HB := n0_; clear n0_; (try clear hb); (try clear hb2); (try clear hk); (try clear hi)))
    go_ret2
    exact ⟨_, by first | rfl | (simp [errW_none, errW_some] <;> rfl) | (simp [*, errW_none, errW_some] <;> rfl), by first | exact Kd.R_nil _ _ _ _ _ | exact Kd.N_nil _ _ _ _ _ | exact Kd.V_nil _ _ _ _ _ | exact Kd.Q_nil _ _ _ _ _ | exact Kd.S_nil _ _ _ _ _, by repeat (first | (with_reducible first | exact HB.out | apply below_alloc | apply pw_below_drewN | apply below_drew1) | exact HB.out)⟩

def aggr_group.f (k : Nat) (l0 : List (S89)) (l1 : List ByteArray) (a2 : Bool) : Option ((List (S89))) := if a2 = true then ((slices_Clone_string_string.f l1).bind fun t118 => (if t118.length < 8796093022208 then ((labels_Without.f k l0 (t118 ++ [(⟨#[95, 95, 110, 97, 109, 101, 95, 95]⟩ : ByteArray)])).bind fun bt124 => (some bt124.1)) else (none))) else ((labels_Keep.f k l0 l1).bind fun bt128 => (some bt128.1))
theorem aggr_group.mono : ∀ a0 a1 a2 k, LeO (aggr_group.f k a0 a1 a2) (aggr_group.f (k + 1) a0 a1 a2) := by
  intro a0 a1 a2 k
  unfold aggr_group.f
  repeat' first
      | (with_reducible exact labels_Keep.mono _ _ _)
      | (with_reducible exact labels_Without.mono _ _ _)
      | (with_reducible exact LeO.refl _)
      | (with_reducible exact LeO.none _)
      | (with_reducible refine LeO.ite ?_ ?_)
      | (with_reducible refine LeO.bind ?_ (fun _ => ?_))
      | exact labels_Keep.mono _ _ _
      | exact labels_Without.mono _ _ _
      | exact LeO.none _
      | refine LeO.ite ?_ ?_
      | refine LeO.bind ?_ (fun _ => ?_)
set_option maxHeartbeats 8000000 in
set_option maxRecDepth 100000 in
theorem aggr_group.calls (k : Nat) (A0 : Option Addr) (c0 : Nat) (l0 : List (S89)) (A1 : Option Addr) (c1 : Nat) (l1 : List ByteArray) (a2 : Bool) (r : List (S89)) (w : World) (hr0 : Kd.C k89 w A0 l0.length l0) (hc0 : l0.length ≤ c0) (hr1 : Kd.C Kd.string w A1 l1.length l1) (hc1 : l1.length ≤ c1) (hT : Tabs w) (h : aggr_group.f k l0 l1 a2 = some r) :
    Calls Tryz.prog 83 #[.slice A0 l0.length c0, .slice A1 l1.length c1, .bool a2] w fun e w' => ∃ v0_ : Value, e = .returned (v0_) ∧ Kd.R k89 89 w' w.heap.size (fun _ => True) v0_ r ∧ Below w.heap.size w w' := by
  have HR0 := Aside0.mk hr0
  have HC0 := Aside0.mk hc0
  clear hr0 hc0
  have HR1 := Aside0.mk hr1
  have HC1 := Aside0.mk hc1
  clear hr1 hc1
  have HT := Aside0.mk hT
  clear hT
  have HB := Aside0.mk (Below.refl w.heap.size w)
  have H : (if a2 = true then ((slices_Clone_string_string.f l1).bind fun t118 => (if t118.length < 8796093022208 then ((labels_Without.f k l0 (t118 ++ [(⟨#[95, 95, 110, 97, 109, 101, 95, 95]⟩ : ByteArray)])).bind fun bt124 => (some bt124.1)) else (none))) else ((labels_Keep.f k l0 l1).bind fun bt128 => (some bt128.1))) = some r := h
  clear h
  by_cases c4 : a2 = true
  · subst c4
    have H1 : ((slices_Clone_string_string.f l1).bind fun t118 => (if t118.length < 8796093022208 then ((labels_Without.f k l0 (t118 ++ [(⟨#[95, 95, 110, 97, 109, 101, 95, 95]⟩ : ByteArray)])).bind fun bt124 => (some bt124.1)) else (none))) = some r := by rw [if_pos rfl] at H; exact H
    clear H
    have H := H1
    clear H1
    replace H := Option.bind_eq_some_iff.mp H
    obtain ⟨t118, A50, H⟩ := H
    replace H : (if t118.length < 8796093022208 then ((labels_Without.f k l0 (t118 ++ [(⟨#[95, 95, 110, 97, 109, 101, 95, 95]⟩ : ByteArray)])).bind fun bt124 => (some bt124.1)) else (none)) = some r := H
    have A5 := Aside0.mk A50
    clear A50
    by_cases c6 : t118.length < 8796093022208
    · rw [if_pos c6] at H
      have LMc6 := Aside0.mk c6
      clear c6
      obtain ⟨y121, hy121⟩ : ∃ y_ : List ByteArray, y_ = (t118 ++ [(⟨#[95, 95, 110, 97, 109, 101, 95, 95]⟩ : ByteArray)]) := ⟨_, rfl⟩
      replace H : ((labels_Without.f k l0 y121).bind fun bt124 => (some bt124.1)) = some r := by first | (rw [hy121]; with_reducible exact H) | (have H2_ := (Option.bind_some _ _).symm.trans H; rw [hy121]; with_reducible exact H2_) | (have H2_ := (Option.bind_some _ _).symm.trans H; with_reducible exact H2_) | with_reducible exact H | (rw [hy121]; exact H) | exact H
      have Ny121 := Aside0.mk hy121
      clear hy121
      replace H := Option.bind_eq_some_iff.mp H
      obtain ⟨⟨t124, t125⟩, A70, H⟩ := H
      replace H : (some t124) = some r := H
      have A7 := Aside0.mk A70
      clear A70
      obtain rfl := Option.some.inj H
      go_enter Tryz.func83, Tryz.ntmps83
      go_wp2_with (first | ((with_reducible refine gate_callee (f := 109) rfl ?_); refine goesL_ (some 15) rfl rfl Tryz.func109 (by kernel_rfl) rfl #[.slice A1 l1.length c1] rfl (by (try simp only [List.map_toArray, List.map_cons, List.map_nil]); first | done | rfl | (simp only [List.length_drop, List.length_take]; rfl)) ?_; (with_reducible refine (slices_Clone_string_string.calls _ _ l1 t118 _ ?side1 ?side2 A5.out).mono ?_); (case side1 => repeat (first | exact HR1.out | (with_reducible refine Kd.C_alloc ?_ _) | (with_reducible refine Kd.C_drewN ?_ _) | (with_reducible refine Kd.C_drew ?_))); (case side2 => exact HC1.out); rintro e w8 ⟨v119, rfl, ho0, hb⟩; refine ⟨_, rfl, ?_⟩; have n0_ := Aside0.mk (Kd.R_lower ho0 (below_size (by repeat (first | (with_reducible first | exact HB.out | apply below_alloc | apply pw_below_drewN | apply below_drew1) | exact HB.out)))); have n1_ := Aside0.mk (below_step (by repeat (first | (with_reducible first | exact HB.out | apply below_alloc | apply pw_below_drewN | apply below_drew1) | exact HB.out)) hb); clear HB; have HO120 := n0_; have HB := n1_; clear n0_ n1_; (try clear hb); (try clear hb2); (try clear hk); (try clear hi); (try clear ho0)) | ((with_reducible refine gate_builtin (b := .append) (xs := #[.tmp 15, .tmp 16]) rfl ?_); at_builtin; refine Kd.R_append Kd.string (w0 := w) w.heap.size rfl (.tmp 15) (.tmp 16) 23 9 (.string ⟨#[]⟩) 16 rfl Tryz.underlying23 info9 rfl (by decide) (by omega) v119 t118 (⟨#[95, 95, 110, 97, 109, 101, 95, 95]⟩ : ByteArray) [.string (⟨#[95, 95, 110, 97, 109, 101, 95, 95]⟩ : ByteArray)] (fun _ => True) (fun _ => False) rfl rfl ?aP (fun _ hk => hk.elim) ?aF ?aO ?aB ?aS ?aL ?_; (case aP => exact rfl); (case aB => exact (by repeat (first | (with_reducible first | exact HB.out | apply below_alloc | apply pw_below_drewN | apply below_drew1) | exact HB.out))); (case aF => exact (fun _ _ => trivial)); (case aO => exact (by (with_reducible repeat (first | apply Kd.R_alloc | apply Kd.R_drewN | apply Kd.R_drew)); exact HO120.out)); (case aS => exact (below_size (by repeat (first | (with_reducible first | exact HB.out | apply below_alloc | apply pw_below_drewN | apply below_drew1) | exact HB.out)))); (case aL => have := LMc6.out; omega); intro v122 w9 ho hb hg hat; rw [← Ny121.out] at ho; have n0_ := Aside0.mk (hb); have n1_ := Aside0.mk (ho); clear HB; clear HO120; have HB := n0_; have HO123 := n1_; clear n0_ n1_; clear ho hb hg hat; obtain ⟨Ao10, co10, eo10⟩ := Kd.R_slice HO123.out; subst eo10) | ((with_reducible refine gate_callee (f := 108) rfl ?_); refine goesL_ (some 18) rfl rfl Tryz.func108 (by kernel_rfl) rfl #[.slice A0 l0.length c0, .slice Ao10 y121.length co10] rfl (by (try simp only [List.map_toArray, List.map_cons, List.map_nil]); first | done | rfl | (simp only [List.length_drop, List.length_take]; rfl)) ?_; (with_reducible refine (labels_Without.calls k _ _ l0 _ _ y121 t124 t125 _ ?side1 ?side2 ?side3 ?side4 ?side5 A7.out).mono ?_); (case side1 => repeat (first | exact (Kd.C_below HR0.out HB.out) | (with_reducible refine Kd.C_alloc ?_ _) | (with_reducible refine Kd.C_drewN ?_ _) | (with_reducible refine Kd.C_drew ?_))); (case side2 => exact HC0.out); (case side3 => repeat (first | exact (Kd.R_reads' HO123.out).2.2 | (with_reducible refine Kd.C_alloc ?_ _) | (with_reducible refine Kd.C_drewN ?_ _) | (with_reducible refine Kd.C_drew ?_))); (case side4 => exact (Kd.R_reads' HO123.out).2.1); (case side5 => first | exact HT.out | exact tabs_below HT.out (by repeat (first | (with_reducible first | exact HB.out | apply below_alloc | apply pw_below_drewN | apply below_drew1) | exact HB.out))); rintro e w11 ⟨v126, rfl, ho0, hb⟩; refine ⟨_, rfl, ?_⟩; have n0_ := Aside0.mk (Kd.R_below (by (with_reducible repeat (first | apply Kd.R_alloc | apply Kd.R_drewN | apply Kd.R_drew)); exact HO123.out) hb); have n1_ := Aside0.mk (Kd.R_lower ho0 (below_size (by repeat (first | (with_reducible first | exact HB.out | apply below_alloc | apply pw_below_drewN | apply below_drew1) | exact HB.out)))); have n2_ := Aside0.mk (below_step (by repeat (first | (with_reducible first | exact HB.out | apply below_alloc | apply pw_below_drewN | apply below_drew1) | exact HB.out)) hb); clear HO123; clear HB; have HO123 := n0_; have HO127 := n1_; have HB := n2_; clear n0_ n1_ n2_; (try clear hb); (try clear hb2); (try clear hk); (try clear hi); (try clear ho0)))
      go_ret
      exact ⟨_, by first | rfl | (simp [errW_none, errW_some] <;> rfl) | (simp [*, errW_none, errW_some] <;> rfl), by (with_reducible repeat (first | apply Kd.R_alloc | apply Kd.R_drewN | apply Kd.R_drew)); exact HO127.out, by repeat (first | (with_reducible first | exact HB.out | apply below_alloc | apply pw_below_drewN | apply below_drew1) | exact HB.out)⟩
    · rw [if_neg c6] at H
      exact absurd H (by simp)
  · replace c4 := Bool.eq_false_iff.mpr c4
    subst c4
    have H1 : ((labels_Keep.f k l0 l1).bind fun bt128 => (some bt128.1)) = some r := by rw [if_neg (show ¬ (false = true) by decide)] at H; exact H
    clear H
    have H := H1
    clear H1
    replace H := Option.bind_eq_some_iff.mp H
    obtain ⟨⟨t128, t129⟩, A120, H⟩ := H
    replace H : (some t128) = some r := H
    have A12 := Aside0.mk A120
    clear A120
    obtain rfl := Option.some.inj H
    go_enter Tryz.func83, Tryz.ntmps83
    go_wp2_with (first | ((with_reducible refine gate_callee (f := 107) rfl ?_); refine goesL_ (some 25) rfl rfl Tryz.func107 (by kernel_rfl) rfl #[.slice A0 l0.length c0, .slice A1 l1.length c1] rfl (by (try simp only [List.map_toArray, List.map_cons, List.map_nil]); first | done | rfl | (simp only [List.length_drop, List.length_take]; rfl)) ?_; (with_reducible refine (labels_Keep.calls k _ _ l0 _ _ l1 t128 t129 _ ?side1 ?side2 ?side3 ?side4 ?side5 A12.out).mono ?_); (case side1 => repeat (first | exact HR0.out | (with_reducible refine Kd.C_alloc ?_ _) | (with_reducible refine Kd.C_drewN ?_ _) | (with_reducible refine Kd.C_drew ?_))); (case side2 => exact HC0.out); (case side3 => repeat (first | exact HR1.out | (with_reducible refine Kd.C_alloc ?_ _) | (with_reducible refine Kd.C_drewN ?_ _) | (with_reducible refine Kd.C_drew ?_))); (case side4 => exact HC1.out); (case side5 => first | exact HT.out | exact tabs_below HT.out (by repeat (first | (with_reducible first | exact HB.out | apply below_alloc | apply pw_below_drewN | apply below_drew1) | exact HB.out))); rintro e w13 ⟨v130, rfl, ho0, hb⟩; refine ⟨_, rfl, ?_⟩; have n0_ := Aside0.mk (Kd.R_lower ho0 (below_size (by repeat (first | (with_reducible first | exact HB.out | apply below_alloc | apply pw_below_drewN | apply below_drew1) | exact HB.out)))); have n1_ := Aside0.mk (below_step (by repeat (first | (with_reducible first | exact HB.out | apply below_alloc | apply pw_below_drewN | apply below_drew1) | exact HB.out)) hb); clear HB; have HO131 := n0_; have HB := n1_; clear n0_ n1_; (try clear hb); (try clear hb2); (try clear hk); (try clear hi); (try clear ho0)))
    go_ret
    exact ⟨_, by first | rfl | (simp [errW_none, errW_some] <;> rfl) | (simp [*, errW_none, errW_some] <;> rfl), by (with_reducible repeat (first | apply Kd.R_alloc | apply Kd.R_drewN | apply Kd.R_drew)); exact HO131.out, by repeat (first | (with_reducible first | exact HB.out | apply below_alloc | apply pw_below_drewN | apply below_drew1) | exact HB.out)⟩

def aggr_wrong.l0 : Nat → List ByteArray → Int → Int → Option (Int)
  | 0, _, _, _ => none
  | k + 1, x5, x6, x7 => if x7 < x6 then (if 0 ≤ x7 then (if x7 < (x5.length : Int) then ((labels_Name.f (rdOf ByteArray.empty x5 x7)).bind fun t133 => (if t133 = true then (aggr_wrong.l0 k x5 x6 (wrap64 (x7 + 1))) else (some 40))) else (none)) else (none)) else (some 0)
def aggr_wrong.f (k : Nat) (l0 : List ByteArray) : Option (Int) := aggr_wrong.l0 k l0 (l0.length : Int) 0
theorem aggr_wrong.mono_l : ∀ k, (∀ y0 y1 y2, LeO (aggr_wrong.l0 k y0 y1 y2) (aggr_wrong.l0 (k + 1) y0 y1 y2))
  | 0 => fun _ _ _ r h => by simp [aggr_wrong.l0] at h
  | k + 1 => by
    have ih0 := aggr_wrong.mono_l k
    · intro y0 y1 y2
      unfold aggr_wrong.l0
      repeat' first
      | (with_reducible exact ih0 _ _ _)
      | (with_reducible exact LeO.refl _)
      | (with_reducible exact LeO.none _)
      | (with_reducible refine LeO.ite ?_ ?_)
      | (with_reducible refine LeO.bind ?_ (fun _ => ?_))
      | exact ih0 _ _ _
      | exact LeO.none _
      | refine LeO.ite ?_ ?_
      | refine LeO.bind ?_ (fun _ => ?_)
theorem aggr_wrong.mono : ∀ a0 k, LeO (aggr_wrong.f k a0) (aggr_wrong.f (k + 1) a0) := by
  intro a0 k
  have ih0 := aggr_wrong.mono_l k
  unfold aggr_wrong.f
  repeat' first
      | (with_reducible exact ih0 _ _ _)
      | (with_reducible exact LeO.refl _)
      | (with_reducible exact LeO.none _)
      | (with_reducible refine LeO.ite ?_ ?_)
      | (with_reducible refine LeO.bind ?_ (fun _ => ?_))
      | exact ih0 _ _ _
      | exact LeO.none _
      | refine LeO.ite ?_ ?_
      | refine LeO.bind ?_ (fun _ => ?_)
set_option maxHeartbeats 8000000 in
set_option maxRecDepth 100000 in
theorem aggr_wrong.calls (k : Nat) (A0 : Option Addr) (c0 : Nat) (l0 : List ByteArray) (r : Int) (w : World) (hr0 : Kd.C Kd.string w A0 l0.length l0) (hc0 : l0.length ≤ c0) (h : aggr_wrong.f k l0 = some r) :
    Calls Tryz.prog 85 #[.slice A0 l0.length c0] w fun e w' => e = .returned (.int .i64 r) ∧ Below w.heap.size w w' := by
  have HR0 := Aside0.mk hr0
  have HC0 := Aside0.mk hc0
  clear hr0 hc0
  have HB := Aside0.mk (Below.refl w.heap.size w)
  have H : (aggr_wrong.l0 k l0 (l0.length : Int) 0) = some r := h
  clear h
  have H' := Aside0.mk H
  clear H
  go_enter Tryz.func85, Tryz.ntmps85
  go_wp2
  go_loopg [7] k (fun kq v7 w' => ∃ (x7_1 : Int), v7 = .int .i64 x7_1 ∧ Aside0 (aggr_wrong.l0 kq l0 (l0.length : Int) x7_1 = some r) ∧ Aside0 (kq ≤ k) ∧ Aside0 (Below w.heap.size w w'))
  case atStart => exact ⟨(0), (by first | rfl | (simp; done) | (simp [*]; done)), H', ⟨Nat.le_refl _⟩, ⟨by repeat (first | (with_reducible first | exact HB.out | apply below_alloc | apply pw_below_drewN | apply below_drew1) | exact HB.out)⟩⟩
  case round =>
    clear H'
    obtain ⟨x7_1, rfl, HA, HK1, HB⟩ := hrel
    cases gk with
    | zero => exact absurd HA.out (by simp [aggr_wrong.l0])
    | succ k1 =>
      have H := HA.out
      clear HA
      simp only [aggr_wrong.l0] at H
      by_cases c2 : x7_1 < (l0.length : Int)
      · rw [if_pos c2] at H
        have c2b0 : decide (x7_1 < (l0.length : Int)) = true := decide_eq_true c2
        clear c2
        by_cases c3 : 0 ≤ x7_1
        · rw [if_pos c3] at H
          have c3b0 : decide (0 ≤ x7_1) = true := decide_eq_true c3
          clear c3
          by_cases c4 : x7_1 < (l0.length : Int)
          · rw [if_pos c4] at H
            have c4b0 : decide (x7_1 < (l0.length : Int)) = true := decide_eq_true c4
            clear c4
            replace H := Option.bind_eq_some_iff.mp H
            obtain ⟨t133, A50, H⟩ := H
            replace H : (if t133 = true then (aggr_wrong.l0 k1 l0 (l0.length : Int) (wrap64 (x7_1 + 1))) else (some 40)) = some r := H
            have A5 := Aside0.mk A50
            clear A50
            by_cases c6 : t133 = true
            · subst c6
              have H1 : (aggr_wrong.l0 k1 l0 (l0.length : Int) (wrap64 (x7_1 + 1))) = some r := by rw [if_pos rfl] at H; exact H
              clear H
              have H := H1
              clear H1
              have H' := Aside0.mk H
              clear H
              have p132 : 0 ≤ (x7_1 : Int) := of_decide_eq_true (by first | (with_reducible assumption) | assumption)
              have q132 : x7_1 < (l0.length : Int) := of_decide_eq_true (by first | (with_reducible assumption) | assumption)
              obtain ⟨ad132, e132, hx132_0⟩ := Kd.at_string HR0.out x7_1 p132 q132
              cases e132
              replace hx132_0 := (HB.out.cell (World.block_lt_of_cell? w _ hx132_0)).trans hx132_0
              replace p132 := eq_true p132
              replace q132 := eq_true q132
              go_wp2_with (first | ((with_reducible refine gate_callee (f := 99) rfl ?_); refine goesL_ (some 12) rfl rfl Tryz.func99 (by kernel_rfl) rfl #[.string (rdOf ByteArray.empty l0 x7_1)] rfl (by (try simp only [List.map_toArray, List.map_cons, List.map_nil]); first | done | rfl | (simp only [List.length_drop, List.length_take]; rfl)) ?_; (with_reducible refine (labels_Name.calls (rdOf ByteArray.empty l0 x7_1) true _ A5.out).mono ?_); rintro e w7 ⟨rfl, hb⟩; refine ⟨_, rfl, ?_⟩; have n0_ := Aside0.mk (below_step (by repeat (first | (with_reducible first | exact HB.out | apply below_alloc | apply pw_below_drewN | apply below_drew1) | exact HB.out)) hb); clear HB; have HB := n0_; clear n0_; (try clear hb); (try clear hb2); (try clear hk); (try clear hi)))
              go_roundg k1
              case measure => have := HK1.out; omega
              case rel => exact ⟨(wrap64 (x7_1 + 1)), (by first | rfl | (simp; done) | (simp [*]; done)), H', ⟨by have := HK1.out; omega⟩, ⟨by repeat (first | (with_reducible first | exact HB.out | apply below_alloc | apply pw_below_drewN | apply below_drew1) | exact HB.out)⟩⟩
            · replace c6 := Bool.eq_false_iff.mpr c6
              subst c6
              have H1 : (some 40) = some r := by rw [if_neg (show ¬ (false = true) by decide)] at H; exact H
              clear H
              have H := H1
              clear H1
              obtain rfl := Option.some.inj H
              have p132 : 0 ≤ (x7_1 : Int) := of_decide_eq_true (by first | (with_reducible assumption) | assumption)
              have q132 : x7_1 < (l0.length : Int) := of_decide_eq_true (by first | (with_reducible assumption) | assumption)
              obtain ⟨ad132, e132, hx132_0⟩ := Kd.at_string HR0.out x7_1 p132 q132
              cases e132
              replace hx132_0 := (HB.out.cell (World.block_lt_of_cell? w _ hx132_0)).trans hx132_0
              replace p132 := eq_true p132
              replace q132 := eq_true q132
              go_wp2_with (first | ((with_reducible refine gate_callee (f := 99) rfl ?_); refine goesL_ (some 12) rfl rfl Tryz.func99 (by kernel_rfl) rfl #[.string (rdOf ByteArray.empty l0 x7_1)] rfl (by (try simp only [List.map_toArray, List.map_cons, List.map_nil]); first | done | rfl | (simp only [List.length_drop, List.length_take]; rfl)) ?_; (with_reducible refine (labels_Name.calls (rdOf ByteArray.empty l0 x7_1) false _ A5.out).mono ?_); rintro e w8 ⟨rfl, hb⟩; refine ⟨_, rfl, ?_⟩; have n0_ := Aside0.mk (below_step (by repeat (first | (with_reducible first | exact HB.out | apply below_alloc | apply pw_below_drewN | apply below_drew1) | exact HB.out)) hb); clear HB; have HB := n0_; clear n0_; (try clear hb); (try clear hb2); (try clear hk); (try clear hi)))
              go_ret
              exact ⟨by first | rfl | (simp [errW_none, errW_some] <;> rfl) | (simp [*, errW_none, errW_some] <;> rfl), by repeat (first | (with_reducible first | exact HB.out | apply below_alloc | apply pw_below_drewN | apply below_drew1) | exact HB.out)⟩
          · rw [if_neg c4] at H
            exact absurd H (by simp)
        · rw [if_neg c3] at H
          exact absurd H (by simp)
      · rw [if_neg c2] at H
        have c2b0 : decide (x7_1 < (l0.length : Int)) = false := decide_eq_false c2
        clear c2
        obtain rfl := Option.some.inj H
        go_wp2
        go_ret
        exact ⟨by first | rfl | (simp [errW_none, errW_some] <;> rfl) | (simp [*, errW_none, errW_some] <;> rfl), by repeat (first | (with_reducible first | exact HB.out | apply below_alloc | apply pw_below_drewN | apply below_drew1) | exact HB.out)⟩

def aggr_Group.f (k : Nat) (l0 : List (S89)) (l1 : List ByteArray) (a2 : Bool) : Option ((List (S89)) × Int) := (labels_Right.f k l0).bind fun bt134 => (if bt134.1 = 0 then ((aggr_wrong.f k l1).bind fun t136 => (if t136 = 0 then ((aggr_group.f k l0 l1 a2).bind fun t137 => (some (t137, 0))) else (some (([] : List (S89)), t136)))) else (some (([] : List (S89)), bt134.1)))
theorem aggr_Group.mono : ∀ a0 a1 a2 k, LeO (aggr_Group.f k a0 a1 a2) (aggr_Group.f (k + 1) a0 a1 a2) := by
  intro a0 a1 a2 k
  unfold aggr_Group.f
  repeat' first
      | (with_reducible exact aggr_group.mono _ _ _ _)
      | (with_reducible exact aggr_wrong.mono _ _)
      | (with_reducible exact labels_Right.mono _ _)
      | (with_reducible exact LeO.refl _)
      | (with_reducible exact LeO.none _)
      | (with_reducible refine LeO.ite ?_ ?_)
      | (with_reducible refine LeO.bind ?_ (fun _ => ?_))
      | exact aggr_group.mono _ _ _ _
      | exact aggr_wrong.mono _ _
      | exact labels_Right.mono _ _
      | exact LeO.none _
      | refine LeO.ite ?_ ?_
      | refine LeO.bind ?_ (fun _ => ?_)
set_option maxHeartbeats 8000000 in
set_option maxRecDepth 100000 in
theorem aggr_Group.calls (k : Nat) (A0 : Option Addr) (c0 : Nat) (l0 : List (S89)) (A1 : Option Addr) (c1 : Nat) (l1 : List ByteArray) (a2 : Bool) (r1 : List (S89)) (r2 : Int) (w : World) (hr0 : Kd.C k89 w A0 l0.length l0) (hc0 : l0.length ≤ c0) (hr1 : Kd.C Kd.string w A1 l1.length l1) (hc1 : l1.length ≤ c1) (hT : Tabs w) (h : aggr_Group.f k l0 l1 a2 = some (r1, r2)) :
    Calls Tryz.prog 40 #[.slice A0 l0.length c0, .slice A1 l1.length c1, .bool a2] w fun e w' => ∃ v0_ : Value, e = .returned (.tuple #[v0_, .int .i64 r2]) ∧ Kd.R k89 89 w' w.heap.size (fun _ => True) v0_ r1 ∧ Below w.heap.size w w' := by
  have HR0 := Aside0.mk hr0
  have HC0 := Aside0.mk hc0
  clear hr0 hc0
  have HR1 := Aside0.mk hr1
  have HC1 := Aside0.mk hc1
  clear hr1 hc1
  have HT := Aside0.mk hT
  clear hT
  have HB := Aside0.mk (Below.refl w.heap.size w)
  have H : ((labels_Right.f k l0).bind fun bt134 => (if bt134.1 = 0 then ((aggr_wrong.f k l1).bind fun t136 => (if t136 = 0 then ((aggr_group.f k l0 l1 a2).bind fun t137 => (some (t137, 0))) else (some (([] : List (S89)), t136)))) else (some (([] : List (S89)), bt134.1)))) = some (r1, r2) := h
  clear h
  replace H := Option.bind_eq_some_iff.mp H
  obtain ⟨⟨t134, t135⟩, A40, H⟩ := H
  replace H : (if t134 = 0 then ((aggr_wrong.f k l1).bind fun t136 => (if t136 = 0 then ((aggr_group.f k l0 l1 a2).bind fun t137 => (some (t137, 0))) else (some (([] : List (S89)), t136)))) else (some (([] : List (S89)), t134))) = some (r1, r2) := H
  have A4 := Aside0.mk A40
  clear A40
  by_cases c5 : t134 = 0
  · rw [if_pos c5] at H
    have c5b0 : (t134 == 0) = true := beq_iff_eq.mpr c5
    have c5b1 : (t134 != 0) = false := bne_eq_false_iff_eq.mpr c5
    clear c5
    replace H := Option.bind_eq_some_iff.mp H
    obtain ⟨t136, A60, H⟩ := H
    replace H : (if t136 = 0 then ((aggr_group.f k l0 l1 a2).bind fun t137 => (some (t137, 0))) else (some (([] : List (S89)), t136))) = some (r1, r2) := H
    have A6 := Aside0.mk A60
    clear A60
    by_cases c7 : t136 = 0
    · rw [if_pos c7] at H
      have c7b0 : (t136 == 0) = true := beq_iff_eq.mpr c7
      have c7b1 : (t136 != 0) = false := bne_eq_false_iff_eq.mpr c7
      clear c7
      replace H := Option.bind_eq_some_iff.mp H
      obtain ⟨t137, A80, H⟩ := H
      replace H : (some (t137, 0)) = some (r1, r2) := H
      have A8 := Aside0.mk A80
      clear A80
      simp only [Option.some.injEq, Prod.mk.injEq] at H
      obtain ⟨rfl, rfl⟩ := H
      go_enter Tryz.func40, Tryz.ntmps40
      go_wp2_with (first | ((with_reducible refine gate_callee (f := 73) rfl ?_); refine goesL_ (some 13) rfl rfl Tryz.func73 (by kernel_rfl) rfl #[.slice A0 l0.length c0] rfl (by (try simp only [List.map_toArray, List.map_cons, List.map_nil]); first | done | rfl | (simp only [List.length_drop, List.length_take]; rfl)) ?_; (with_reducible refine (labels_Right.calls k _ _ l0 t134 t135 _ ?side1 ?side2 ?side3 A4.out).mono ?_); (case side1 => repeat (first | exact HR0.out | (with_reducible refine Kd.C_alloc ?_ _) | (with_reducible refine Kd.C_drewN ?_ _) | (with_reducible refine Kd.C_drew ?_))); (case side2 => exact HC0.out); (case side3 => first | exact HT.out | exact tabs_below HT.out (by repeat (first | (with_reducible first | exact HB.out | apply below_alloc | apply pw_below_drewN | apply below_drew1) | exact HB.out))); rintro e w9 ⟨rfl, hb⟩; refine ⟨_, rfl, ?_⟩; have n0_ := Aside0.mk (below_step (by repeat (first | (with_reducible first | exact HB.out | apply below_alloc | apply pw_below_drewN | apply below_drew1) | exact HB.out)) hb); clear HB; have HB := n0_; clear n0_; (try clear hb); (try clear hb2); (try clear hk); (try clear hi)) | ((with_reducible refine gate_callee (f := 85) rfl ?_); refine goesL_ (some 20) rfl rfl Tryz.func85 (by kernel_rfl) rfl #[.slice A1 l1.length c1] rfl (by (try simp only [List.map_toArray, List.map_cons, List.map_nil]); first | done | rfl | (simp only [List.length_drop, List.length_take]; rfl)) ?_; (with_reducible refine (aggr_wrong.calls k _ _ l1 t136 _ ?side1 ?side2 A6.out).mono ?_); (case side1 => repeat (first | exact (Kd.C_below HR1.out HB.out) | (with_reducible refine Kd.C_alloc ?_ _) | (with_reducible refine Kd.C_drewN ?_ _) | (with_reducible refine Kd.C_drew ?_))); (case side2 => exact HC1.out); rintro e w10 ⟨rfl, hb⟩; refine ⟨_, rfl, ?_⟩; have n0_ := Aside0.mk (below_step (by repeat (first | (with_reducible first | exact HB.out | apply below_alloc | apply pw_below_drewN | apply below_drew1) | exact HB.out)) hb); clear HB; have HB := n0_; clear n0_; (try clear hb); (try clear hb2); (try clear hk); (try clear hi)) | ((with_reducible refine gate_callee (f := 83) rfl ?_); refine goesL_ (some 27) rfl rfl Tryz.func83 (by kernel_rfl) rfl #[.slice A0 l0.length c0, .slice A1 l1.length c1, .bool a2] rfl (by (try simp only [List.map_toArray, List.map_cons, List.map_nil]); first | done | rfl | (simp only [List.length_drop, List.length_take]; rfl)) ?_; (with_reducible refine (aggr_group.calls k _ _ l0 _ _ l1 a2 t137 _ ?side1 ?side2 ?side3 ?side4 ?side5 A8.out).mono ?_); (case side1 => repeat (first | exact (Kd.C_below HR0.out HB.out) | (with_reducible refine Kd.C_alloc ?_ _) | (with_reducible refine Kd.C_drewN ?_ _) | (with_reducible refine Kd.C_drew ?_))); (case side2 => exact HC0.out); (case side3 => repeat (first | exact (Kd.C_below HR1.out HB.out) | (with_reducible refine Kd.C_alloc ?_ _) | (with_reducible refine Kd.C_drewN ?_ _) | (with_reducible refine Kd.C_drew ?_))); (case side4 => exact HC1.out); (case side5 => first | exact HT.out | exact tabs_below HT.out (by repeat (first | (with_reducible first | exact HB.out | apply below_alloc | apply pw_below_drewN | apply below_drew1) | exact HB.out))); rintro e w11 ⟨v138, rfl, ho0, hb⟩; refine ⟨_, rfl, ?_⟩; have n0_ := Aside0.mk (Kd.R_lower ho0 (below_size (by repeat (first | (with_reducible first | exact HB.out | apply below_alloc | apply pw_below_drewN | apply below_drew1) | exact HB.out)))); have n1_ := Aside0.mk (below_step (by repeat (first | (with_reducible first | exact HB.out | apply below_alloc | apply pw_below_drewN | apply below_drew1) | exact HB.out)) hb); clear HB; have HO139 := n0_; have HB := n1_; clear n0_ n1_; (try clear hb); (try clear hb2); (try clear hk); (try clear hi); (try clear ho0)))
      go_ret2
      exact ⟨_, by first | rfl | (simp [errW_none, errW_some] <;> rfl) | (simp [*, errW_none, errW_some] <;> rfl), by (with_reducible repeat (first | apply Kd.R_alloc | apply Kd.R_drewN | apply Kd.R_drew)); exact HO139.out, by repeat (first | (with_reducible first | exact HB.out | apply below_alloc | apply pw_below_drewN | apply below_drew1) | exact HB.out)⟩
    · rw [if_neg c7] at H
      have c7b0 : (t136 == 0) = false := beq_eq_false_iff_ne.mpr c7
      have c7b1 : (t136 != 0) = true := bne_iff_ne.mpr c7
      simp only [Option.some.injEq, Prod.mk.injEq] at H
      obtain ⟨rfl, rfl⟩ := H
      go_enter Tryz.func40, Tryz.ntmps40
      go_wp2_with (first | ((with_reducible refine gate_callee (f := 73) rfl ?_); refine goesL_ (some 13) rfl rfl Tryz.func73 (by kernel_rfl) rfl #[.slice A0 l0.length c0] rfl (by (try simp only [List.map_toArray, List.map_cons, List.map_nil]); first | done | rfl | (simp only [List.length_drop, List.length_take]; rfl)) ?_; (with_reducible refine (labels_Right.calls k _ _ l0 t134 t135 _ ?side1 ?side2 ?side3 A4.out).mono ?_); (case side1 => repeat (first | exact HR0.out | (with_reducible refine Kd.C_alloc ?_ _) | (with_reducible refine Kd.C_drewN ?_ _) | (with_reducible refine Kd.C_drew ?_))); (case side2 => exact HC0.out); (case side3 => first | exact HT.out | exact tabs_below HT.out (by repeat (first | (with_reducible first | exact HB.out | apply below_alloc | apply pw_below_drewN | apply below_drew1) | exact HB.out))); rintro e w12 ⟨rfl, hb⟩; refine ⟨_, rfl, ?_⟩; have n0_ := Aside0.mk (below_step (by repeat (first | (with_reducible first | exact HB.out | apply below_alloc | apply pw_below_drewN | apply below_drew1) | exact HB.out)) hb); clear HB; have HB := n0_; clear n0_; (try clear hb); (try clear hb2); (try clear hk); (try clear hi)) | ((with_reducible refine gate_callee (f := 85) rfl ?_); refine goesL_ (some 20) rfl rfl Tryz.func85 (by kernel_rfl) rfl #[.slice A1 l1.length c1] rfl (by (try simp only [List.map_toArray, List.map_cons, List.map_nil]); first | done | rfl | (simp only [List.length_drop, List.length_take]; rfl)) ?_; (with_reducible refine (aggr_wrong.calls k _ _ l1 t136 _ ?side1 ?side2 A6.out).mono ?_); (case side1 => repeat (first | exact (Kd.C_below HR1.out HB.out) | (with_reducible refine Kd.C_alloc ?_ _) | (with_reducible refine Kd.C_drewN ?_ _) | (with_reducible refine Kd.C_drew ?_))); (case side2 => exact HC1.out); rintro e w13 ⟨rfl, hb⟩; refine ⟨_, rfl, ?_⟩; have n0_ := Aside0.mk (below_step (by repeat (first | (with_reducible first | exact HB.out | apply below_alloc | apply pw_below_drewN | apply below_drew1) | exact HB.out)) hb); clear HB; have HB := n0_; clear n0_; (try clear hb); (try clear hb2); (try clear hk); (try clear hi)))
      go_ret2
      exact ⟨_, by first | rfl | (simp [errW_none, errW_some] <;> rfl) | (simp [*, errW_none, errW_some] <;> rfl), by first | exact Kd.R_nil _ _ _ _ _ | exact Kd.N_nil _ _ _ _ _ | exact Kd.V_nil _ _ _ _ _ | exact Kd.Q_nil _ _ _ _ _ | exact Kd.S_nil _ _ _ _ _, by repeat (first | (with_reducible first | exact HB.out | apply below_alloc | apply pw_below_drewN | apply below_drew1) | exact HB.out)⟩
  · rw [if_neg c5] at H
    have c5b0 : (t134 == 0) = false := beq_eq_false_iff_ne.mpr c5
    have c5b1 : (t134 != 0) = true := bne_iff_ne.mpr c5
    simp only [Option.some.injEq, Prod.mk.injEq] at H
    obtain ⟨rfl, rfl⟩ := H
    go_enter Tryz.func40, Tryz.ntmps40
    go_wp2_with (first | ((with_reducible refine gate_callee (f := 73) rfl ?_); refine goesL_ (some 13) rfl rfl Tryz.func73 (by kernel_rfl) rfl #[.slice A0 l0.length c0] rfl (by (try simp only [List.map_toArray, List.map_cons, List.map_nil]); first | done | rfl | (simp only [List.length_drop, List.length_take]; rfl)) ?_; (with_reducible refine (labels_Right.calls k _ _ l0 t134 t135 _ ?side1 ?side2 ?side3 A4.out).mono ?_); (case side1 => repeat (first | exact HR0.out | (with_reducible refine Kd.C_alloc ?_ _) | (with_reducible refine Kd.C_drewN ?_ _) | (with_reducible refine Kd.C_drew ?_))); (case side2 => exact HC0.out); (case side3 => first | exact HT.out | exact tabs_below HT.out (by repeat (first | (with_reducible first | exact HB.out | apply below_alloc | apply pw_below_drewN | apply below_drew1) | exact HB.out))); rintro e w14 ⟨rfl, hb⟩; refine ⟨_, rfl, ?_⟩; have n0_ := Aside0.mk (below_step (by repeat (first | (with_reducible first | exact HB.out | apply below_alloc | apply pw_below_drewN | apply below_drew1) | exact HB.out)) hb); clear HB; have HB := n0_; clear n0_; (try clear hb); (try clear hb2); (try clear hk); (try clear hi)))
    go_ret2
    exact ⟨_, by first | rfl | (simp [errW_none, errW_some] <;> rfl) | (simp [*, errW_none, errW_some] <;> rfl), by first | exact Kd.R_nil _ _ _ _ _ | exact Kd.N_nil _ _ _ _ _ | exact Kd.V_nil _ _ _ _ _ | exact Kd.Q_nil _ _ _ _ _ | exact Kd.S_nil _ _ _ _ _, by repeat (first | (with_reducible first | exact HB.out | apply below_alloc | apply pw_below_drewN | apply below_drew1) | exact HB.out)⟩

end Go.Proofs.YtoncpeadbhgmaaaGreatDoor.G

set_option linter.unusedVariables false
set_option linter.unusedSimpArgs false
namespace Go.Proofs.YtoncpeadbhgmaaaGreatDoor.G
open Go.RowKit Go.Sort Go.Proofs.YtoncpeadbhgmaaaGreatDoorW.PrintWords

def WfN (l : List ByteArray) : Prop := ∀ x ∈ l, x.size ≤ 140737488355328
def namedAll (l : List ByteArray) : Bool := l.all fun s => namedF s 64 false
theorem wrong_ev (l : List ByteArray) (hw : WfN l) (hl : l.length ≤ 140737488355328) : ∀ d i : Nat, i + d = l.length →
    Ev (fun k => aggr_wrong.l0 k l (l.length : Int) (i : Int)) (if namedAll (l.drop i) then 0 else 40)
  | 0, i, h => by
    refine Ev.step (fun k => by rw [aggr_wrong.l0]) ?_
    have h1 : ¬ ((i : Int) < (l.length : Int)) := by omega
    rw [List.drop_eq_nil_of_le (by omega)]
    simp only [h1, if_false]
    exact Ev.now _
  | d + 1, i, h => by
    have hlt : i < l.length := by omega
    have h1 : (i : Int) < (l.length : Int) := by omega
    have h0 : (0 : Int) ≤ i := by omega
    refine Ev.step (fun k => by rw [aggr_wrong.l0]) ?_
    rw [List.drop_eq_getElem_cons hlt, rdOf_at _ _ _ hlt, name_f _ (hw _ (List.getElem_mem hlt))]
    have ha : namedAll (l[i] :: l.drop (i + 1)) = (namedF l[i] 64 false && namedAll (l.drop (i + 1))) := rfl
    rw [ha]
    cases hn : namedF l[i] 64 false with
    | false =>
      simp only [h1, h0, if_true, Option.bind_some, Bool.false_and, if_false, Bool.false_eq_true]
      exact Ev.now _
    | true =>
      simp only [h1, h0, if_true, Option.bind_some, Bool.true_and, wrap_succ i (by omega)]
      exact wrong_ev l hw hl d (i + 1) (by omega)
theorem wrong_f (l : List ByteArray) (hw : WfN l) (hl : l.length ≤ 140737488355328) : Ev (fun k => aggr_wrong.f k l) (if namedAll l then 0 else 40) := wrong_ev l hw hl l.length 0 (by omega)
theorem named_ev (l : List ByteArray) (hw : WfN l) (hl : l.length ≤ 140737488355328) : ∀ d i : Nat, i + d = l.length →
    Ev (fun k => tocsinref16_Named.l0 k l (l.length : Int) (i : Int)) (namedAll (l.drop i))
  | 0, i, h => by
    refine Ev.step (fun k => by rw [tocsinref16_Named.l0]) ?_
    have h1 : ¬ ((i : Int) < (l.length : Int)) := by omega
    rw [List.drop_eq_nil_of_le (by omega)]
    simp only [h1, if_false]
    exact Ev.now _
  | d + 1, i, h => by
    have hlt : i < l.length := by omega
    have h1 : (i : Int) < (l.length : Int) := by omega
    have h0 : (0 : Int) ≤ i := by omega
    refine Ev.step (fun k => by rw [tocsinref16_Named.l0]) ?_
    rw [List.drop_eq_getElem_cons hlt, rdOf_at _ _ _ hlt]
    have ha : namedAll (l[i] :: l.drop (i + 1)) = (namedF l[i] 64 false && namedAll (l.drop (i + 1))) := rfl
    rw [ha]
    simp only [h1, h0, if_true]
    refine Ev.bind (rname_f l[i] (hw _ (List.getElem_mem hlt))) ?_
    cases hn : namedF l[i] 64 false with
    | false =>
      simp only [Bool.false_and, if_false, Bool.false_eq_true]
      exact Ev.now _
    | true =>
      simp only [if_true, Bool.true_and, wrap_succ i (by omega)]
      exact named_ev l hw hl d (i + 1) (by omega)
theorem named_f (l : List ByteArray) (hw : WfN l) (hl : l.length ≤ 140737488355328) : Ev (fun k => tocsinref16_Named.f k l) (namedAll l) := named_ev l hw hl l.length 0 (by omega)

/-- The group of a right label set. -/
def groupF (l : List S89) (names : List ByteArray) (wo : Bool) : List S89 := if wo then pickF l (names ++ [⟨#[95, 95, 110, 97, 109, 101, 95, 95]⟩]) false else pickF l names true
theorem right_short (l : List S89) (h : (rightF l).1 = 0) : l.length ≤ 16 := by
  unfold rightF at h
  split at h
  · simp at h
  · omega
theorem group_f (l : List S89) (names : List ByteArray) (wo : Bool) (hw : WfL l) (hn : names.length < 8796093022208) (hr : (rightF l).1 = 0) : Ev (fun k => aggr_group.f k l names wo) (groupF l names wo) := by
  have hl := right_short l hr
  unfold aggr_group.f groupF
  cases wo with
  | true =>
    simp only [if_true]
    have hc : slices_Clone_string_string.f names = some names := by unfold slices_Clone_string_string.f; rw [if_pos hn]
    simp only [hc, Option.bind_some, hn, if_true]
    unfold labels_Without.f labels_right.f
    refine Ev.bind (a := (pickF l (names ++ [⟨#[95, 95, 110, 97, 109, 101, 95, 95]⟩]) false, (0 : Int))) (Ev.bind (a := (rightF l).1) (Ev.bind (right_f l hw) (Ev.now _)) ?_) (Ev.now _)
    simp only [hr, if_true]
    exact Ev.bind (pick_f l _ false (by simp; omega) (by omega)) (Ev.now _)
  | false =>
    simp only [Bool.false_eq_true, if_false]
    unfold labels_Keep.f labels_right.f
    refine Ev.bind (a := (pickF l names true, (0 : Int))) (Ev.bind (a := (rightF l).1) (Ev.bind (right_f l hw) (Ev.now _)) ?_) (Ev.now _)
    simp only [hr, if_true]
    exact Ev.bind (pick_f l _ true (by omega) (by omega)) (Ev.now _)
theorem rgroup_f (l : List S89) (names : List ByteArray) (wo : Bool) (hn : names.length < 8796093022208) (hl : l.length ≤ 4398046511104) : Ev (fun k => tocsinref16_group.f k l names wo) (groupF l names wo) := by
  unfold tocsinref16_group.f groupF
  cases wo with
  | true =>
    have h1 : ([] : List ByteArray).length + names.length < 8796093022208 := by simpa using hn
    simp only [if_true, h1, Option.bind_some, List.nil_append, hn]
    exact Ev.bind (rpick_f l _ false (by simp; omega) hl) (Ev.now _)
  | false =>
    simp only [Bool.false_eq_true, if_false]
    exact Ev.bind (rpick_f l _ true (by omega) hl) (Ev.now _)
/-- What the group of a label set is, or what is wrong. -/
def GroupE (l : List S89) (names : List ByteArray) (wo : Bool) : List S89 × Int := if (rightF l).1 = 0 then (if namedAll names then (groupF l names wo, 0) else ([], 40)) else ([], (rightF l).1)
theorem Group_f (l : List S89) (names : List ByteArray) (wo : Bool) (hw : WfL l) (hwn : WfN names) (hn : names.length < 8796093022208) : Ev (fun k => aggr_Group.f k l names wo) (GroupE l names wo) := by
  unfold aggr_Group.f GroupE
  refine Ev.bind (right_f l hw) ?_
  by_cases hr : (rightF l).1 = 0
  · simp only [hr, if_true]
    refine Ev.bind (wrong_f names hwn (by omega)) ?_
    cases namedAll names with
    | true =>
      simp only [if_true]
      exact Ev.bind (group_f l names wo hw hn hr) (Ev.now _)
    | false =>
      simp only [Bool.false_eq_true, if_false, show ¬ ((40 : Int) = 0) by decide]
      exact Ev.now _
  · simp only [hr, if_false]
    exact Ev.now _
theorem rGroup_f (l : List S89) (names : List ByteArray) (wo : Bool) (hw : WfL l) (hwn : WfN names) (hn : names.length < 8796093022208) : Ev (fun k => tocsinref16_Group.f k l names wo) (GroupE l names wo) := by
  unfold tocsinref16_Group.f GroupE
  refine Ev.bind (rright_f l hw) ?_
  by_cases hr : (rightF l).1 = 0
  · simp only [hr, if_true]
    refine Ev.bind (named_f names hwn (by omega)) ?_
    cases namedAll names with
    | true =>
      simp only [if_true]
      exact Ev.bind (rgroup_f l names wo hn (by have := right_short l hr; omega)) (Ev.now _)
    | false =>
      simp only [Bool.false_eq_true, if_false]
      exact Ev.now _
  · simp only [hr, if_false]
    exact Ev.now _
end Go.Proofs.YtoncpeadbhgmaaaGreatDoor.G

