/- Parts of the proof of AggrGroups. -/
import Derived.ArgAppend
import Derived.Below
import Derived.BigQuiet
import Derived.Deep.AppendLies
import Derived.Deep.CutBlock
import Derived.Deep.DeepCutAuto
import Derived.Deep.Draws
import Derived.Deep.LoopGhost
import Derived.Deep.OwnRows
import Derived.Deep.QuietTactic
import Derived.Deep.RegionHeld3
import Derived.Ground.NamesProg
import Derived.KernelRfl
import Derived.Laws.BitsLemmas
import Derived.Laws.BytesArg
import Derived.Laws.IdiomCopy
import Derived.Laws.MakeOwn
import Derived.Laws.OwnMore
import Derived.Laws.Rows
import Derived.Laws.Slices
import Derived.Laws.StructEq
import Derived.Lib.AppendStr
import Derived.Lib.ConvBytes
import Derived.Maps.AppendAt
import Derived.OrdersHeld
import Derived.Outline
import Derived.OwnWalk
import Derived.RowKit
import Derived.RowKit3
import Derived.Shelf.Bits.Mul64
import Derived.Shelf.Small.Strs
import Derived.Shelf.Strings.Search1
import Derived.Shelf.Unicode.ValidAny
import Derived.Sort.Grow
import Derived.Tactics
import Derived.Test.YtoncpeadbhgmaaaGreatDoorGs0
import Derived.Test.YtoncpeadbhgmaaaGreatDoorGs1
import Derived.Test.YtoncpeadbhgmaaaGreatDoorProg
import Derived.WalkKit
import Derived.WideLaws
set_option linter.unusedVariables false
set_option linter.unusedSimpArgs false
namespace Go.Proofs.YtoncpeadbhgmaaaGreatDoor.G
open Go.RowKit Go.Sort Go.Proofs.YtoncpeadbhgmaaaGreatDoorW.PrintWords Go.Proofs.YtoncpeadbhgmaaaGreatDoorW.PrintLast Go.Proofs.YtoncpeadbhgmaaaGreatDoorW.PrintMore

def cmpB (a b : ByteArray) : Int := Lib.compareBytes a.data.toList b.data.toList
def cmpLab (x y : S89) : Int := if cmpB x.f0 y.f0 = 0 then cmpB x.f1 y.f1 else cmpB x.f0 y.f0

theorem strcmp (a b : ByteArray) (w : World) : Calls Tryz.prog 117 #[.string a, .string b] w fun e w' => e = .returned (.int .i64 (cmpB a b)) ∧ w = w' :=
  (Tryz.strings_Compare a b w).mono fun _ _ ⟨he, hw⟩ => ⟨he, hw.symm⟩

set_option maxHeartbeats 1000000 in
set_option maxRecDepth 100000 in
theorem cmpLab_calls (a0 a1 b0 b1 : ByteArray) (w : World) :
    Calls Tryz.prog 116 #[.agg #[.string a0, .string a1], .agg #[.string b0, .string b1]] w fun e w' => e = .returned (.int .i64 (cmpLab ⟨a0, a1⟩ ⟨b0, b1⟩)) ∧ w' = (w.alloc (.cells #[.string a0, .string a1] 89)).alloc (.cells #[.string b0, .string b1] 89) := by
  have hc : ∀ r, r = cmpLab ⟨a0, a1⟩ ⟨b0, b1⟩ → (if cmpB a0 b0 = 0 then cmpB a1 b1 else cmpB a0 b0) = r := fun r h => h ▸ rfl
  have HC := hid (hc _ rfl); clear hc
  generalize cmpLab ⟨a0, a1⟩ ⟨b0, b1⟩ = r at HC ⊢
  have c0 := strcmp a0 b0
  have c1 := strcmp a1 b1
  generalize cmpB a0 b0 = x at HC c0
  generalize cmpB a1 b1 = y at HC c1
  by_cases h0 : x = 0
  · subst h0
    obtain rfl : y = r := HC
    go_enter Tryz.func116, Tryz.ntmps116
    go_wp2_with fail
    refine (c0 _).mono ?_
    rintro e w' ⟨rfl, rfl⟩
    go_wp2_with fail
    refine (c1 _).mono ?_
    rintro e w' ⟨rfl, rfl⟩
    go_wp2
    go_ret
    exact ⟨rfl, rfl⟩
  · have hb : (x == 0) = false := by simpa using h0
    have hb2 : (x != 0) = true := by simpa using h0
    have HR : x = r := by have := HC.out; rwa [if_neg h0] at this
    subst HR
    clear HC h0
    go_enter Tryz.func116, Tryz.ntmps116
    go_wp2_with fail
    refine (c0 _).mono ?_
    rintro e w' ⟨rfl, rfl⟩
    go_wp2
    go_ret
    exact ⟨rfl, rfl⟩

def cmpLs : List S89 → List S89 → Int
  | [], [] => 0
  | [], _ :: _ => -1
  | _ :: _, [] => 1
  | x :: xs, y :: ys => if cmpLab x y = 0 then cmpLs xs ys else cmpLab x y

theorem cmpLs_end (a b : List S89) (k : Nat) (ha : a.length ≤ k) (hb : k < b.length) : cmpLs (a.drop k) (b.drop k) = -1 := by
  rw [List.drop_eq_nil_of_le ha, List.drop_eq_getElem_cons hb]; rfl
theorem cmpLs_more (a b : List S89) (k : Nat) (ha : k < a.length) (hb : b.length ≤ k) : cmpLs (a.drop k) (b.drop k) = 1 := by
  rw [List.drop_eq_nil_of_le hb, List.drop_eq_getElem_cons ha]; rfl
theorem cmpLs_both (a b : List S89) (k : Nat) (ha : a.length ≤ k) (hb : b.length ≤ k) : cmpLs (a.drop k) (b.drop k) = 0 := by
  rw [List.drop_eq_nil_of_le ha, List.drop_eq_nil_of_le hb]; rfl
theorem rd_at (a : List S89) (k : Nat) (h : k < a.length) : rd_T89 a k = a[k] := by simp [rd_T89, List.getD_eq_getElem?_getD, h]
theorem cmpLs_step (a b : List S89) (k : Nat) (ha : k < a.length) (hb : k < b.length) : cmpLs (a.drop k) (b.drop k) = if cmpLab (rd_T89 a k) (rd_T89 b k) = 0 then cmpLs (a.drop (k + 1)) (b.drop (k + 1)) else cmpLab (rd_T89 a k) (rd_T89 b k) := by
  rw [List.drop_eq_getElem_cons ha, List.drop_eq_getElem_cons hb, rd_at a k ha, rd_at b k hb]; rfl

set_option maxHeartbeats 4000000 in
set_option maxRecDepth 100000 in
theorem compareFunc_calls (A0 : Option Addr) (c0 : Nat) (l0 : List S89) (A1 : Option Addr) (c1 : Nat) (l1 : List S89) (w : World) (hr0 : Kd.C k89 w A0 l0.length l0) (hr1 : Kd.C k89 w A1 l1.length l1) :
    Calls Tryz.prog 115 #[.slice A0 l0.length c0, .slice A1 l1.length c1, .func (.func 116) #[] #[]] w fun e w' => e = .returned (.int .i64 (cmpLs l0 l1)) ∧ Grew w w' := by
  have hm0 := Kd.C_max hr0
  have hm1 := Kd.C_max hr1
  have HR0 := hid hr0; clear hr0
  have HR1 := hid hr1; clear hr1
  generalize hres : cmpLs l0 l1 = res
  have HRes := hid hres; clear hres
  go_enter Tryz.func115, Tryz.ntmps115
  go_wp2
  go_loopw [13] (fun i wr => ∃ k : Nat, k ≤ l0.length ∧ i = .int .i64 k ∧ Hid (Grew w wr) ∧ Hid (cmpLs (l0.drop k) (l1.drop k) = res)) (fun i _ => l0.length - (intOf i).toNat)
  case atStart => exact ⟨0, by omega, rfl, Grew.refl _, HRes⟩
  case round =>
    obtain ⟨k, hk, rfl, HG, HC⟩ := hrel
    clear HRes
    by_cases h0 : k < l0.length
    · by_cases h1 : k < l1.length
      · obtain ⟨ad0, e0, x0, x1⟩ := at_T89 HR0.out k (by omega) (by omega)
        obtain ⟨ad1, e1, y0, y1⟩ := at_T89 HR1.out k (by omega) (by omega)
        cases e0; cases e1
        replace x0 := (HG.out.below.cell (World.block_lt_of_cell? w _ x0)).trans x0
        replace x1 := (HG.out.below.cell (World.block_lt_of_cell? w _ x1)).trans x1
        replace y0 := (HG.out.below.cell (World.block_lt_of_cell? w _ y0)).trans y0
        replace y1 := (HG.out.below.cell (World.block_lt_of_cell? w _ y1)).trans y1
        simp only [Int.toNat_natCast] at x0 x1 y0 y1
        have hst := cmpLs_step l0 l1 k h0 h1
        generalize rd_T89 l0 k = u at x0 x1 hst
        generalize rd_T89 l1 k = v at y0 y1 hst
        rw [hst] at HC
        have HC' := hid HC; clear HC hst
        have b0 := World.block_lt_of_cell? wr _ y0
        have cu := cmpLab_calls u.f0 u.f1 v.f0 v.f1
        change ∀ w, Calls Tryz.prog 116 #[.agg #[.string u.f0, .string u.f1], .agg #[.string v.f0, .string v.f1]] w fun e w' => e = .returned (.int .i64 (cmpLab u v)) ∧ w' = _ at cu
        generalize hz : cmpLab u v = z at cu HC'
        by_cases hz0 : z = 0
        · subst hz0
          have HC2 : Hid (cmpLs (l0.drop (k + 1)) (l1.drop (k + 1)) = res) := by have := HC'.out; rwa [if_pos rfl] at this
          clear HC' hz
          go_wp2_with fail
          refine (cu _).mono ?_
          rintro e w' ⟨rfl, rfl⟩
          go_wp2
          go_roundw
          case rel => exact ⟨k + 1, by omega, by go_num, (((HG.out.alloc _).alloc _).alloc _).alloc _, HC2⟩
          case measure => simp [intOf]; omega
        · have hb2 : (z != 0) = true := by simpa using hz0
          have HC2 : z = res := by have := HC'.out; rwa [if_neg hz0] at this
          subst HC2
          clear HC' hz hz0
          go_wp2_with fail
          refine (cu _).mono ?_
          rintro e w' ⟨rfl, rfl⟩
          go_wp2
          go_ret
          exact ⟨rfl, (((HG.out.alloc _).alloc _).alloc _).alloc _⟩
      · obtain ⟨ad0, e0, x0, x1⟩ := at_T89 HR0.out k (by omega) (by omega)
        cases e0
        replace x0 := (HG.out.below.cell (World.block_lt_of_cell? w _ x0)).trans x0
        replace x1 := (HG.out.below.cell (World.block_lt_of_cell? w _ x1)).trans x1
        simp only [Int.toNat_natCast] at x0 x1
        have hst := cmpLs_more l0 l1 k h0 (by omega)
        rw [hst] at HC
        have HC2 : 1 = res := HC
        subst HC2
        clear HC hst
        go_wp2
        go_ret
        exact ⟨rfl, HG.out.alloc _⟩
    · obtain rfl : k = l0.length := by omega
      by_cases h1 : l0.length < l1.length
      · have HC2 : -1 = res := by have := HC.out; rwa [cmpLs_end _ _ _ (Nat.le_refl _) h1] at this
        subst HC2
        clear HC
        go_wp2
        go_ret
        exact ⟨rfl, HG.out⟩
      · have HC2 : 0 = res := by have := HC.out; rwa [cmpLs_both _ _ _ (Nat.le_refl _) (by omega)] at this
        subst HC2
        clear HC
        go_wp2
        go_ret
        exact ⟨rfl, HG.out⟩

set_option maxHeartbeats 1000000 in
/-- labels.Compare. -/
theorem compare_grew (A0 : Option Addr) (c0 : Nat) (l0 : List S89) (A1 : Option Addr) (c1 : Nat) (l1 : List S89) (w : World) (hr0 : Kd.C k89 w A0 l0.length l0) (hr1 : Kd.C k89 w A1 l1.length l1) :
    Calls Tryz.prog 61 #[.slice A0 l0.length c0, .slice A1 l1.length c1] w fun e w' => e = .returned (.int .i64 (cmpLs l0 l1)) ∧ Grew w w' := by
  have c := compareFunc_calls A0 c0 l0 A1 c1 l1 w hr0 hr1
  generalize cmpLs l0 l1 = r at c ⊢
  clear hr0 hr1
  go_enter Tryz.func61, Tryz.ntmps61
  go_wp2_with fail
  refine c.mono ?_
  rintro e w' ⟨rfl, hg⟩
  go_wp2
  go_ret
  exact ⟨rfl, hg⟩
def labels_Compare.f (l0 l1 : List S89) : Option Int := some (cmpLs l0 l1)
theorem labels_Compare.calls (A0 : Option Addr) (c0 : Nat) (l0 : List S89) (A1 : Option Addr) (c1 : Nat) (l1 : List S89) (r : Int) (w : World) (hr0 : Kd.C k89 w A0 l0.length l0) (hc0 : l0.length ≤ c0) (hr1 : Kd.C k89 w A1 l1.length l1) (hc1 : l1.length ≤ c1) (h : labels_Compare.f l0 l1 = some r) :
    Calls Tryz.prog 61 #[.slice A0 l0.length c0, .slice A1 l1.length c1] w fun e w' => e = .returned (.int .i64 r) ∧ Below w.heap.size w w' := by
  obtain rfl := Option.some.inj h
  exact (compare_grew A0 c0 l0 A1 c1 l1 w hr0 hr1).mono fun e w' ⟨he, hg⟩ => ⟨he, hg.below⟩
end Go.Proofs.YtoncpeadbhgmaaaGreatDoor.G

