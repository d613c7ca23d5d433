/- Parts of the proof of AggrGroups. -/
import Derived.ArgAppend
import Derived.Below
import Derived.BigQuiet
import Derived.ChangeArms
import Derived.ChangeOld
import Derived.Deep.AppendLies
import Derived.Deep.CutBlock
import Derived.Deep.DeepCutAuto
import Derived.Deep.DeepHandedRow
import Derived.Deep.Draws
import Derived.Deep.LoopGhost
import Derived.Deep.OwnRows
import Derived.Deep.QuietTactic
import Derived.Deep.RegionHeld3
import Derived.Deep.SlicePairs
import Derived.Ground.NamesProg
import Derived.Ground.SlsfProg
import Derived.IntWalk
import Derived.KernelRfl
import Derived.LaidHandle
import Derived.Laws.BitsLemmas
import Derived.Laws.BytesArg
import Derived.Laws.Externs
import Derived.Laws.FloatArith
import Derived.Laws.IdiomCopy
import Derived.Laws.MakeOwn
import Derived.Laws.OwnMore
import Derived.Laws.Rows
import Derived.Laws.Slices
import Derived.Laws.StructEq
import Derived.Lay
import Derived.Lib.AppendStr
import Derived.Lib.ConvBytes
import Derived.Lib.LaidU8T
import Derived.Lib.TrimUEq
import Derived.Lib.ValidLaws
import Derived.Maps.AppendAt
import Derived.Maps.OwnOps
import Derived.Maps.OwnSet
import Derived.Maps.Views
import Derived.OpenShut
import Derived.OrdersHeld
import Derived.Outline
import Derived.OwnWalk
import Derived.ProofKit
import Derived.RowKit
import Derived.RowKit3
import Derived.Shelf.Bits.Mul64
import Derived.Shelf.SlSortCmp.NoneTotal
import Derived.Shelf.Small.Strs
import Derived.Shelf.Strings.Search1
import Derived.Shelf.Unicode.ValidAny
import Derived.ShutString
import Derived.SizedLaws
import Derived.SliceStrings
import Derived.Sort.Grow
import Derived.Tactics
import Derived.Test.YtoncpeadbhgmaaaGreatDoorChecked
import Derived.Test.YtoncpeadbhgmaaaGreatDoorGs0
import Derived.Test.YtoncpeadbhgmaaaGreatDoorGs1
import Derived.Test.YtoncpeadbhgmaaaGreatDoorGs2
import Derived.Test.YtoncpeadbhgmaaaGreatDoorGs3
import Derived.Test.YtoncpeadbhgmaaaGreatDoorGs4
import Derived.Test.YtoncpeadbhgmaaaGreatDoorGs5
import Derived.Test.YtoncpeadbhgmaaaGreatDoorGs6
import Derived.Test.YtoncpeadbhgmaaaGreatDoorGs7
import Derived.Test.YtoncpeadbhgmaaaGreatDoorGs8
import Derived.Test.YtoncpeadbhgmaaaGreatDoorGs9
import Derived.Test.YtoncpeadbhgmaaaGreatDoorProg
import Derived.Test.YtoncpeadbhgmaaaGreatDoorRows
import Derived.WalkKit
import Derived.WalkSpells
import Derived.WideLaws
set_option linter.unusedVariables false
set_option linter.unusedSimpArgs false
namespace Go.Proofs.YtoncpeadbhgmaaaGreatDoor.G
open Go.RowKit Go.Sort Go.Shelf Go.Proofs.YtoncpeadbhgmaaaGreatDoorW.PrintWords Go.Proofs.YtoncpeadbhgmaaaGreatDoorW.PrintLast Go.Proofs.YtoncpeadbhgmaaaGreatDoorW.PrintMore

theorem C_block {α : Type} (d : Kd α) {w : World} {g e : Nat} {cells : Array Value} {xs : List α} (hb : w.heap[g]? = some (.cells cells e (0, 0))) (hm : xs.length ≤ 9223372036854775807) (hr : Reps (d.K w) d.sz xs cells.toList) : d.C w (some ⟨g, 0, none⟩) xs.length xs := by
  refine ⟨rfl, hm, fun hp => ⟨_, rfl, fun j p hj => ⟨_, d.K_len (hr.2 j p hj), hr.2 j p hj, fun i u hu => ?_⟩⟩⟩
  rw [add_plain, blk_cell hb]
  have hi : i < d.sz := by
    have := (List.getElem?_eq_some_iff.1 hu).1
    simp at this; omega
  rw [List.getElem?_take, if_pos hi, List.getElem?_drop] at hu
  simpa using hu
theorem reps_two {α : Type} {R : α → List Value → Prop} {sz : Nat} {x y : α} {cs : List Value} (hl : cs.length = 2 * sz) (h0 : R x (cs.take sz)) (h1 : R y ((cs.drop sz).take sz)) : Reps R sz [x, y] cs := by
  refine ⟨by simpa using hl, fun j p hj => ?_⟩
  match j, hj with
  | 0, hj => simp at hj; subst hj; simpa using h0
  | 1, hj => simp at hj; subst hj; simpa using h1
theorem reps_one {α : Type} {R : α → List Value → Prop} {sz : Nat} {x : α} {cs : List Value} (hl : cs.length = sz) (h0 : R x cs) : Reps R sz [x] cs := by
  refine ⟨by simpa using hl, fun j p hj => ?_⟩
  match j, hj with
  | 0, hj => simp at hj; subst hj; simpa [← hl] using h0

def bA : ByteArray := ⟨#[97]⟩
def bB : ByteArray := ⟨#[98]⟩
def b1 : ByteArray := ⟨#[49]⟩
def bX : ByteArray := ⟨#[120]⟩
def bY : ByteArray := ⟨#[121]⟩
def aw1 : S41 := ⟨[⟨bA, b1⟩, ⟨bB, bX⟩], 4611686018427387904⟩
def aw2 : S41 := ⟨[⟨bA, b1⟩, ⟨bB, bY⟩], 4616189618054758400⟩
def awR : S41 := ⟨[⟨bA, b1⟩], 4618441417868443648⟩

def o1 : Obj := .cells #[.string bA, .string b1, .string bB, .string bX] 89
def o2 : Obj := .cells #[.string bA, .string b1, .string bB, .string bY] 89
def o3 (n : Nat) : Obj := .cells #[.slice (some ⟨n, 0, none⟩) 2 2, .float .f64 4611686018427387904, .slice (some ⟨n + 1, 0, none⟩) 2 2, .float .f64 4616189618054758400] 41
def o4 : Obj := .cells #[.string bA] 9
def awW (w : World) : World := (((w.alloc o1).alloc o2).alloc (o3 w.heap.size)).alloc o4
theorem aw_below (w : World) : Below w.heap.size w (awW w) := below_alloc (below_alloc (below_alloc (below_alloc (Below.refl _ _) _) _) _) _
theorem aw_1 (w : World) : (awW w).heap[w.heap.size]? = some o1 := blk_alloc (blk_alloc (blk_alloc (blk_new w o1) _) _) _
theorem aw_2 (w : World) : (awW w).heap[w.heap.size + 1]? = some o2 := by
  have := blk_alloc (blk_alloc (blk_new (w.alloc o1) o2) (o3 w.heap.size)) o4
  simpa [awW] using this
theorem aw_3 (w : World) : (awW w).heap[w.heap.size + 1 + 1]? = some (o3 w.heap.size) := by
  have := blk_alloc (blk_new ((w.alloc o1).alloc o2) (o3 w.heap.size)) o4
  simpa [awW] using this
theorem aw_4 (w : World) : (awW w).heap[w.heap.size + 1 + 1 + 1]? = some o4 := by
  have := blk_new (((w.alloc o1).alloc o2).alloc (o3 w.heap.size)) o4
  simpa [awW] using this
theorem k89_of (w : World) (x : S89) : k89.K w x [.string x.f0, .string x.f1] := ⟨[.string x.f0], [.string x.f1], rfl, rfl, rfl⟩
theorem aw_C1 (w : World) : k89.C (awW w) (some ⟨w.heap.size, 0, none⟩) aw1.f0.length aw1.f0 := C_block k89 (aw_1 w) (by simp [aw1]) (reps_two rfl (k89_of _ ⟨bA, b1⟩) (k89_of _ ⟨bB, bX⟩))
theorem aw_C2 (w : World) : k89.C (awW w) (some ⟨w.heap.size + 1, 0, none⟩) aw2.f0.length aw2.f0 := C_block k89 (aw_2 w) (by simp [aw2]) (reps_two rfl (k89_of _ ⟨bA, b1⟩) (k89_of _ ⟨bB, bY⟩))
theorem aw_C3 (w : World) : k41.C (awW w) (some ⟨w.heap.size + 1 + 1, 0, none⟩) [aw1, aw2].length [aw1, aw2] :=
  C_block k41 (aw_3 w) (by simp) (reps_two rfl (k41_mk _ aw1 (c0 := 2) (by simp [aw1]) (aw_C1 w)) (k41_mk _ aw2 (c0 := 2) (by simp [aw2]) (aw_C2 w)))
theorem aw_C4 (w : World) : Kd.string.C (awW w) (some ⟨w.heap.size + 1 + 1 + 1, 0, none⟩) [bA].length [bA] := C_block Kd.string (aw_4 w) (by simp) (reps_one rfl rfl)
theorem fl_C (w : World) : Kd.f64.C (w.alloc (.cells #[.float .f64 4611686018427387904, .float .f64 4616189618054758400] 34)) (some ⟨w.heap.size, 0, none⟩) [4611686018427387904, 4616189618054758400].length [4611686018427387904, 4616189618054758400] :=
  C_block Kd.f64 (blk_new _ _) (by simp) (reps_two rfl rfl rfl)
theorem avg_24 : avgO [4611686018427387904, 4616189618054758400] = some 4613937818241073152 := by kernel_rfl
theorem told_3 : toldB 4613937818241073152 = 4613937818241073152 := by kernel_rfl
theorem eq_3 : (FloatKind.f64.format.order 4613937818241073152 4613937818241073152 == some Ordering.eq) = true := by kernel_rfl
theorem eq_6 : (FloatKind.f64.format.order 4618441417868443648 4618441417868443648 == some Ordering.eq) = true := by kernel_rfl

set_option maxHeartbeats 4000000 in
set_option maxRecDepth 1000000 in
theorem awake_walk (k : Nat) (fin : GSt) (wds : List ByteArray) (w : World) (hT : Tabs w)
    (hwd : aggr_Words.f = some wds) (hct : slices_Contains_string_string.f k wds sumS = some true)
    (hv : vec_Vector.f k [aw1, aw2] = some ([aw1, aw2], 0)) (hw : aggr_wrong.f k [bA] = some 0) (hf : gfold k [bA] false [aw1, aw2] ⟨[], [], []⟩ = some fin) (hfl : fin.outs.length < 1048576)
    (hN : ∀ ys : List (Fin fin.outs.length), ys.Perm (List.finRange fin.outs.length) → (ys.Pairwise fun a b => ¬ cmpLs (fin.keys.getD b.1 []) (fin.keys.getD a.1 []) < 0) → ∃ pts, numPts k [bA] false (ys.map fun i => fin.outs[i]) = some pts ∧ vec_Vector.f k pts = some ([awR], 0)) :
    Calls Tryz.prog 30 #[] w fun e w' => e = .returned (.bool true) ∧ Below w.heap.size w w' := by
  have HT := hid hT
  have HV := hid hv
  have HW := hid hw
  have HF := hid hf
  have HFl := hid hfl
  have HN := hid hN
  have HCt := hid hct
  have HWd := hid hwd
  clear hT hv hw hf hfl hN hct hwd
  go_enter Tryz.func30, Tryz.ntmps30
  go_wp2_with fail
  have cn := number_sum k (some ⟨w.heap.size + 1 + 1, 0, none⟩) 2 [aw1, aw2] (some ⟨w.heap.size + 1 + 1 + 1, 0, none⟩) 1 [bA] false 0 [aw1, aw2] fin [awR] wds (awW w) (aw_C3 w) (by simp) (aw_C4 w) (by simp) (tabs_below HT.out (aw_below w)) HWd.out HCt.out HV.out HW.out HF.out HFl.out (fun ys hp hs => HN.out ys hp (hs.imp (fun h => by omega)))
  refine Calls.mono (show Calls Tryz.prog 29 _ _ _ from cn) ?_
  rintro e w5 ⟨v, rfl, hR, hB⟩
  obtain ⟨Av, cv, rfl, hlv, hCv⟩ := Kd.R_reads hR
  have HB5 := hid (below_step (aw_below w) hB)
  obtain ⟨ad, Ap, cp, e2, x0, x1, hlp, hcp⟩ := at_T41 hCv (0 : Int) (by omega) (by simp)
  subst e2
  have ez : ad.add ((0 : Int).toNat * 2) = ad := by simp [Addr.add]
  rw [ez] at x0 x1
  have x0' : w5.cell? ad = some (.slice Ap 1 cp) := x0
  have x1' : w5.cell? ⟨ad.block, ad.off + 1, none⟩ = some (.float .f64 4618441417868443648) := x1
  clear hR hB hlv hCv hlp hcp ez x0 x1 cn
  go_wp2_with fail
  have cf := Fold_avg (some ⟨w5.heap.size, 0, none⟩) 2 [4611686018427387904, 4616189618054758400] 0 4613937818241073152 (w5.alloc (.cells #[.float .f64 4611686018427387904, .float .f64 4616189618054758400] 34)) (fl_C w5) (by simp) (by simp) avg_24
  rw [told_3] at cf
  refine Calls.mono (show Calls Tryz.prog 31 _ _ _ from cf) ?_
  rintro e w6 ⟨rfl, rfl⟩
  have z0 := (World.cell?_alloc_lt w5 (.cells #[.float .f64 4611686018427387904, .float .f64 4616189618054758400] 34) _ (World.block_lt_of_cell? _ _ x0')).trans x0'
  have z1 := (World.cell?_alloc_lt w5 (.cells #[.float .f64 4611686018427387904, .float .f64 4616189618054758400] 34) _ (World.block_lt_of_cell? _ _ x1')).trans x1'
  have e3 := eq_3
  have e6 := eq_6
  have HB6 := hid (below_alloc HB5.out (.cells #[.float .f64 4611686018427387904, .float .f64 4616189618054758400] 34))
  clear cf x0' x1'
  go_wp2
  go_ret
  exact ⟨rfl, HB6.out⟩
end Go.Proofs.YtoncpeadbhgmaaaGreatDoor.G

set_option linter.unusedVariables false
set_option linter.unusedSimpArgs false
namespace Go.Proofs.YtoncpeadbhgmaaaGreatDoor.G
open Go.RowKit Go.Sort Go.Shelf Go.Proofs.YtoncpeadbhgmaaaGreatDoorW.PrintWords Go.Proofs.YtoncpeadbhgmaaaGreatDoorW.PrintLast Go.Proofs.YtoncpeadbhgmaaaGreatDoorW.PrintMore

def wdsL : List ByteArray := [(⟨#[97, 118, 103]⟩ : ByteArray), (⟨#[98, 111, 116, 116, 111, 109, 107]⟩ : ByteArray), (⟨#[99, 111, 117, 110, 116]⟩ : ByteArray), (⟨#[103, 114, 111, 117, 112]⟩ : ByteArray), (⟨#[109, 97, 120]⟩ : ByteArray), (⟨#[109, 105, 110]⟩ : ByteArray), (⟨#[113, 117, 97, 110, 116, 105, 108, 101]⟩ : ByteArray), (⟨#[115, 116, 100, 100, 101, 118]⟩ : ByteArray), (⟨#[115, 116, 100, 118, 97, 114]⟩ : ByteArray), (⟨#[115, 117, 109]⟩ : ByteArray), (⟨#[116, 111, 112, 107]⟩ : ByteArray)]
theorem aw_words : aggr_Words.f = some wdsL := rfl
set_option maxRecDepth 100000 in
theorem aw_has : slices_Contains_string_string.f 40 wdsL sumS = some true := by kernel_rfl
set_option maxRecDepth 100000 in
theorem aw_wrong : aggr_wrong.f 40 [bA] = some 0 := by kernel_rfl
set_option maxRecDepth 100000 in
theorem aw_l2 : vec_Vector.l2 34 [aw1, aw2] 1 = some ([aw1, aw2], 0) := by kernel_rfl
set_option maxRecDepth 100000 in
theorem aw_l2R : vec_Vector.l2 36 [awR] 1 = some ([awR], 0) := by kernel_rfl
theorem aw_cmp : cmpPt aw1 aw2 = -1 ∧ cmpPt aw2 aw1 = 1 := ⟨by kernel_rfl, by kernel_rfl⟩
set_option maxRecDepth 100000 in
theorem aw_vec0 : vec_Vector.f 40 [aw1, aw2] = sortAll cmpPt [aw1, aw2] (fun y8 => vec_Vector.l2 34 y8 1) := by kernel_rfl
set_option maxRecDepth 100000 in
theorem aw_vecR0 : vec_Vector.f 40 [awR] = sortAll cmpPt [awR] (fun y8 => vec_Vector.l2 36 y8 1) := by kernel_rfl
theorem aw_vec : vec_Vector.f 40 [aw1, aw2] = some ([aw1, aw2], 0) := by
  rw [aw_vec0]
  have hc := aw_cmp
  have hl := aw_l2
  generalize aw1 = a at hc hl ⊢
  generalize aw2 = b at hc hl ⊢
  refine sortAll_eq (by simp) ⟨[a, b], List.Perm.refl _, by simp [hc.2]⟩ (fun ys hp hs => ?_)
  have hlen := hp.length_eq
  match ys, hlen with
  | [x, y], _ =>
    have hx : x ∈ [a, b] := hp.subset (by simp)
    simp only [List.mem_cons, List.not_mem_nil, or_false] at hx
    rcases hx with rfl | rfl
    · have h2 := (List.perm_cons x).1 hp
      have h3 := List.perm_singleton.1 h2
      injection h3 with h3
      subst h3
      exact hl
    · have h2 := (List.perm_cons x).1 (hp.trans (List.Perm.swap x a []))
      have h3 := List.perm_singleton.1 h2
      injection h3 with h3
      subst h3
      exfalso
      have := hs
      simp [hc.1] at this
theorem aw_vecR : vec_Vector.f 40 [awR] = some ([awR], 0) := by
  rw [aw_vecR0]
  have hl := aw_l2R
  generalize awR = a at hl ⊢
  refine sortAll_eq (by simp) ⟨[a], List.Perm.refl _, by simp⟩ (fun ys hp hs => ?_)
  rw [List.perm_singleton.1 hp]
  exact hl
def awFin : GSt := ⟨[[⟨bA, b1⟩]], [[1, 1, 97, 1, 49]], [[aw1, aw2]]⟩
set_option maxRecDepth 100000 in
theorem aw_fold : gfold 40 [bA] false [aw1, aw2] ⟨[], [], []⟩ = some awFin := by kernel_rfl
set_option maxRecDepth 100000 in
theorem aw_pts : numPts 40 [bA] false [[aw1, aw2]] = some [awR] := by kernel_rfl
/-- awake of the laws of chapter 16 holds, whatever world it is called in. -/
theorem awake_calls (w : World) (hT : Tabs w) : Calls Tryz.prog 30 #[] w fun e w' => e = .returned (.bool true) ∧ Below w.heap.size w w' := by
  refine awake_walk 40 awFin wdsL w hT aw_words aw_has aw_vec aw_wrong aw_fold (by simp [awFin]) (fun ys hp hs => ⟨[awR], ?_, aw_vecR⟩)
  have hy : ys = [⟨0, by simp [awFin]⟩] := List.perm_singleton.1 (hp.trans (List.Perm.of_eq rfl))
  rw [hy]
  exact aw_pts
end Go.Proofs.YtoncpeadbhgmaaaGreatDoor.G

set_option linter.unusedVariables false
set_option linter.unusedSimpArgs false
namespace Go.Proofs.YtoncpeadbhgmaaaGreatDoor.G
open Go.RowKit Go.Sort Go.Shelf Go.Proofs.YtoncpeadbhgmaaaGreatDoorW.PrintWords Go.Proofs.YtoncpeadbhgmaaaGreatDoorW.PrintLast Go.Proofs.YtoncpeadbhgmaaaGreatDoorW.PrintMore

/-- What aggr.Groups leaves; what the reference's leaves. -/
def AG (w w' : World) (v : Value) (outs : List (List S41)) : Prop := (∃ B, w.heap.size ≤ B ∧ Rows B w'.heap.size w' v outs) ∧ Below w.heap.size w w'
def RG (w w' : World) (v : Value) (outs : List Part) : Prop := (∃ B w0, w.heap.size ≤ B ∧ PartsDone B w0 w' v outs) ∧ Below w.heap.size w w'
structure GAsk (k : Nat) (l0 : List S41) (l1 : List ByteArray) (a2 : Bool) (outs : List Part) (er : Int) : Prop where
  same : ∀ o ∈ outs, tocsinref11_SamePoints.f k o.2 o.2 = some true
  grp : ∀ o ∈ outs, ∀ p ∈ o.2, aggr_Group.f k p.f0 l1 a2 = some (o.1, 0)
  lab : ∀ o ∈ outs, tocsinref04_Same.f k o.1 o.1 = some true
  tot : er = 0 → (outs.map (·.2.length)).sum = l0.length
  few : (outs.map (·.2.length)).sum ≤ 1000
def upTo (outs : List Part) (j : Nat) : Nat := ((outs.take j).map (·.2.length)).sum
theorem upTo_succ (outs : List Part) (j : Nat) (h : j < outs.length) : upTo outs (j + 1) = upTo outs j + outs[j].2.length := by
  unfold upTo
  rw [show outs.take (j + 1) = outs.take j ++ [outs[j]] from by rw [List.take_add_one, List.getElem?_eq_getElem h]; rfl, List.map_append, List.sum_append]
  simp only [List.map_cons, List.map_nil, List.sum_cons, List.sum_nil]
  omega
theorem upTo_le (outs : List Part) (j : Nat) : upTo outs j ≤ (outs.map (·.2.length)).sum := by
  unfold upTo
  have : (outs.map (·.2.length)).sum = ((outs.take j).map (·.2.length)).sum + ((outs.drop j).map (·.2.length)).sum := by
    rw [← List.sum_append, ← List.map_append, List.take_append_drop]
  omega
set_option maxHeartbeats 8000000 in
set_option maxRecDepth 1000000 in
theorem aggrGroups_walk (k : Nat) (A0 : Option Addr) (c0 : Nat) (l0 : List S41) (A1 : Option Addr) (c1 : Nat) (l1 : List ByteArray) (a2 : Bool) (outs : List Part) (er : Int) (w : World)
    (hr0 : Kd.C k41 w A0 l0.length l0) (hc0 : l0.length ≤ c0) (hr1 : Kd.C Kd.string w A1 l1.length l1) (hc1 : l1.length ≤ c1) (hT : Tabs w) (hA : GAsk k l0 l1 a2 outs er)
    (ca : Calls Tryz.prog 32 #[.slice A0 l0.length c0, .slice A1 l1.length c1, .bool a2] w fun e w' => ∃ v, e = .returned (.tuple #[v, .int .i64 er]) ∧ AG w w' v (outs.map (·.2)))
    (cb : ∀ w1, Below w.heap.size w w1 → Calls Tryz.prog 39 #[.slice A0 l0.length c0, .slice A1 l1.length c1, .bool a2] w1 fun e w' => ∃ v, e = .returned (.tuple #[v, .int .i64 er]) ∧ RG w1 w' v outs) :
    Calls Tryz.prog 10 #[.slice A0 l0.length c0, .slice A1 l1.length c1, .bool a2] w fun e w' => e = .returned (.bool true) ∧ Below w.heap.size w w' := by
  have HR0 := hid hr0
  have HR1 := hid hr1
  have HC0 := hid hc0
  have HC1 := hid hc1
  have HT := hid hT
  have HA := hid hA
  have HCb := hid cb
  clear hr0 hc0 hr1 hc1 hT hA cb
  go_enter Tryz.func10, Tryz.ntmps10
  go_wp2_with fail
  refine ca.mono ?_
  rintro e w1 ⟨va, rfl, hoa⟩
  have HOa := hid hoa
  clear ca hoa
  obtain ⟨⟨Ba, hBa, hRa⟩, hb1⟩ := HOa.out
  obtain ⟨Aa, ca, rfl, hma, hat⟩ := rows_at hRa
  rw [List.length_map] at hma ⊢
  have HAt := hid hat
  have HB1 := hid hb1
  clear hBa hRa hb1 hat HOa
  go_wp2_with fail
  refine (HCb.out w1 HB1.out).mono ?_
  rintro e w2 ⟨vb, rfl, hob⟩
  obtain ⟨⟨Bb, w0, hBb, vs, hRb, hIb, hBl⟩, hb2⟩ := hob
  obtain ⟨Ab, cb, rfl, hmb, hcb, hpt⟩ := part_at hRb hIb
  have HPt := hid hpt
  have HB12 := hid hb2
  have HB2 := hid (HB1.out.trans (hb2.mono HB1.out.size))
  clear hBb hRb hIb hBl hb2 hpt HCb
  go_wp2_with fail
  go_loopw [11, 43] (fun n i wr => ∃ j : Nat, j ≤ outs.length ∧ i = .int .i64 j ∧ n = .int .i64 (upTo outs j) ∧ Hid (Below w2.heap.size w2 wr)) (fun _ i _ => outs.length - (intOf i).toNat)
  case atStart => exact ⟨0, Nat.zero_le _, rfl, rfl, Below.refl _ _⟩
  case round =>
    obtain ⟨j, hj, rfl, rfl, HBw⟩ := hrel
    by_cases hlt : j < outs.length
    · obtain ⟨gb, Ai, ci, rfl, x0, hli, hci⟩ := HAt.out j (by simpa using hlt)
      obtain ⟨gc, Al, cl, Ap, cp, rfl, hvk, y0, y1, yf, hll, hlp, hcl, hcp⟩ := HPt.out j hlt
      have hom : outs[j] ∈ outs := List.getElem_mem _
      have hsm := HA.out.same _ hom
      have hgr := HA.out.grp _ hom
      have hlb := HA.out.lab _ hom
      have hup := upTo_succ outs j hlt
      have hu1 := upTo_le outs (j + 1)
      have hfew := HA.out.few
      rw [List.getElem_map] at x0 hli hci
      generalize outs[j] = o at *
      replace x0 := (HB12.out.cell (World.block_lt_of_cell? w1 _ x0)).trans x0
      replace x0 := (HBw.out.cell (World.block_lt_of_cell? w2 _ x0)).trans x0
      replace y0 := (HBw.out.cell (World.block_lt_of_cell? w2 _ y0)).trans y0
      replace y1 := (HBw.out.cell (World.block_lt_of_cell? w2 _ y1)).trans y1
      have HCi := hid (Kd.C_below (Kd.C_below hci HB12.out) HBw.out)
      have HLi := hid hli
      have HLl := hid hll
      have HCl := hid (Kd.C_below hcl HBw.out)
      have HLp := hid hlp
      have HCp := hid (Kd.C_below hcp HBw.out)
      have HSm := hid hsm
      have HGr := hid hgr
      have HLb := hid hlb
      have HUp := hid hup
      have hb1 : upTo outs j + o.2.length ≤ 1000 := by omega
      have HLt := hid hlt
      clear hvk yf hll hlp hcl hcp hci hli hsm hgr hlb hup hu1 hfew hom
      go_wp2_with fail

      have x0d : wr.drew.cell? ⟨gb, j, none⟩ = some (.slice Ai o.2.length ci) := x0
      have y1d : wr.drew.cell? ⟨gc, j * 2 + 1, none⟩ = some (.slice Ap o.2.length cp) := y1
      refine start_ (n := 11) (S := fun w' => w'.cell? ⟨gb, j, none⟩ = some (.slice Ai o.2.length ci) ∧ w'.cell? ⟨gc, j * 2 + 1, none⟩ = some (.slice Ap o.2.length cp)) (ds := []) #[false, false, false, false, false, false, false, false, false, false, false] (by kernel_rfl) rfl rfl ⟨x0d, y1d⟩ (fun hHeld => ?_)
      have HBd := hid (show Below wr.heap.size wr wr.drew from below_drew (Below.refl _ _))
      generalize wr.drew = w3 at x0d y1d HBd hHeld ⊢
      refine pure_ (i := 0) (N := some 46) (v := ?_) (a' := ?_) #[true, false, false, false, false, false, false, false, false, false, false] rfl rfl (by kernel_rfl) (fun _ _ _ h => h) (Or.inl ⟨by rfl, ?_⟩) ?_ ?_
      rotate_left
      · intro w'
        go_simp
        with_reducible rfl
      rotate_left
      · simp only [Act.put, List.setIfInBounds_toArray, List.set_cons_zero, List.set_cons_succ, i64_w, i32_w]
        rfl
      refine pure_ (i := 1) (N := some 47) (v := ?_) (a' := ?_) #[true, true, false, false, false, false, false, false, false, false, false] rfl rfl (by kernel_rfl) (fun _ _ _ h => h) (Or.inl ⟨by rfl, ?_⟩) ?_ ?_
      rotate_left
      · intro w'
        go_simp
        with_reducible rfl
      rotate_left
      · simp only [Act.put, List.setIfInBounds_toArray, List.set_cons_zero, List.set_cons_succ, i64_w, i32_w]
        rfl
      refine pure_ (i := 2) (N := some 48) (v := ?_) (a' := ?_) #[true, true, true, false, false, false, false, false, false, false, false] rfl rfl (by kernel_rfl) (fun _ _ _ h => h) (Or.inl ⟨by rfl, ?_⟩) ?_ ?_
      rotate_left
      · intro w'
        go_simp
        with_reducible rfl
      rotate_left
      · simp only [Act.put, List.setIfInBounds_toArray, List.set_cons_zero, List.set_cons_succ, i64_w, i32_w]
        rfl
      refine take_ (i := 3) (N := some 49) (v := ?_) (a' := ?_) #[true, true, true, true, false, false, false, false, false, false, false] rfl rfl (by kernel_rfl) (fun _ _ _ h => h) (Or.inl ⟨by rfl, ?_⟩) hHeld ?_ ?_
      rotate_left
      · rintro w' ⟨s0, s1⟩
        go_simp
        with_reducible rfl
      rotate_left
      · simp only [Act.put, List.setIfInBounds_toArray, List.set_cons_zero, List.set_cons_succ, i64_w, i32_w]
        rfl
      refine pure_ (i := 4) (N := some 50) (v := ?_) (a' := ?_) #[true, true, true, true, true, false, false, false, false, false, false] rfl rfl (by kernel_rfl) (fun _ _ _ h => h) (Or.inl ⟨by rfl, ?_⟩) ?_ ?_
      rotate_left
      · intro w'
        go_simp
        with_reducible rfl
      rotate_left
      · simp only [Act.put, List.setIfInBounds_toArray, List.set_cons_zero, List.set_cons_succ, i64_w, i32_w]
        rfl
      refine pure_ (i := 5) (N := some 51) (v := ?_) (a' := ?_) #[true, true, true, true, true, true, false, false, false, false, false] rfl rfl (by kernel_rfl) (fun _ _ _ h => h) (Or.inl ⟨by rfl, ?_⟩) ?_ ?_
      rotate_left
      · intro w'
        go_simp
        with_reducible rfl
      rotate_left
      · simp only [Act.put, List.setIfInBounds_toArray, List.set_cons_zero, List.set_cons_succ, i64_w, i32_w]
        rfl
      refine pure_ (i := 6) (N := some 52) (v := ?_) (a' := ?_) #[true, true, true, true, true, true, true, false, false, false, false] rfl rfl (by kernel_rfl) (fun _ _ _ h => h) (Or.inl ⟨by rfl, ?_⟩) ?_ ?_
      rotate_left
      · intro w'
        go_simp
        with_reducible rfl
      rotate_left
      · simp only [Act.put, List.setIfInBounds_toArray, List.set_cons_zero, List.set_cons_succ, i64_w, i32_w]
        rfl
      refine pure_ (i := 7) (N := some 53) (v := ?_) (a' := ?_) #[true, true, true, true, true, true, true, true, false, false, false] rfl rfl (by kernel_rfl) (fun _ _ _ h => h) (Or.inl ⟨by rfl, ?_⟩) ?_ ?_
      rotate_left
      · intro w'
        go_simp
        with_reducible rfl
      rotate_left
      · simp only [Act.put, List.setIfInBounds_toArray, List.set_cons_zero, List.set_cons_succ, i64_w, i32_w]
        rfl
      refine take_ (i := 8) (N := some 54) (v := ?_) (a' := ?_) #[true, true, true, true, true, true, true, true, true, false, false] rfl rfl (by kernel_rfl) (fun _ _ _ h => h) (Or.inl ⟨by rfl, ?_⟩) hHeld ?_ ?_
      rotate_left
      · rintro w' ⟨s0, s1⟩
        go_simp
        with_reducible rfl
      rotate_left
      · simp only [Act.put, List.setIfInBounds_toArray, List.set_cons_zero, List.set_cons_succ, i64_w, i32_w]
        rfl
      refine one_ (i := 9) (N := some 55) #[true, true, true, true, true, true, true, true, true, true, false] rfl rfl (by kernel_rfl) (by decide) (fun K hK => ?_)
      refine goes_ Tryz.func17 (by kernel_rfl) rfl #[.slice Ai o.2.length ci, .slice Ap o.2.length cp] (by rfl) rfl rfl (by simp only [List.map_toArray, List.map_cons, List.map_nil]; rfl) ?_
      with_reducible refine (tocsinref11_SamePoints.calls k Ai ci o.2 Ap cp o.2 true w3 (Kd.C_below HCi.out HBd.out) HLi.out (Kd.C_below HCp.out HBd.out) HLp.out HSm.out).mono ?_
      rintro e w4 ⟨rfl, hb4⟩
      refine ⟨_, rfl, ?_⟩
      have x04 : w4.cell? ⟨gb, j, none⟩ = some (.slice Ai o.2.length ci) := (hb4.cell (World.block_lt_of_cell? w3 _ x0d)).trans x0d
      have y14 : w4.cell? ⟨gc, j * 2 + 1, none⟩ = some (.slice Ap o.2.length cp) := (hb4.cell (World.block_lt_of_cell? w3 _ y1d)).trans y1d
      have HB4 := hid (show Below wr.heap.size wr w4 from HBd.out.trans (hb4.mono HBd.out.size))
      have y04 : w4.cell? ⟨gc, j * 2, none⟩ = some (.slice Al o.1.length cl) := (HB4.out.cell (World.block_lt_of_cell? wr _ y0)).trans y0
      refine hK.out _ _ ⟨x04, y14⟩ (fun hHeld => ?_)
      clear hK K
      refine norm_ (a' := ?_) ?_ ?_
      rotate_left
      · show Act.put _ (some 55) _ = _
        simp only [Act.put, List.setIfInBounds_toArray, List.set_cons_zero, List.set_cons_succ, i64_w, i32_w]
        rfl
      refine pure_ (i := 10) (N := some 56) (v := ?_) (a' := ?_) #[true, true, true, true, true, true, true, true, true, true, true] rfl rfl (by kernel_rfl) (fun _ _ _ h => h) (Or.inl ⟨by rfl, ?_⟩) ?_ ?_
      rotate_left
      · intro w'
        go_simp
        with_reducible rfl
      rotate_left
      · simp only [Act.put, List.setIfInBounds_toArray, List.set_cons_zero, List.set_cons_succ, i64_w, i32_w]
        rfl
      refine done_ (by kernel_rfl) ?_
      clear hHeld x0 y0 y1 x0d y1d hb4 y14
      have HC4 := hid (Kd.C_below HCi.out HB4.out)
      have HL4 := hid (Kd.C_below HCl.out HB4.out)
      have HBw4 := hid (show Below w2.heap.size w2 w4 from HBw.out.trans (HB4.out.mono HBw.out.size))
      have hm2 : o.2.length ≤ 9223372036854775807 := by omega
      go_wp2_with fail
      go_loopw [69] (fun i2 w5 => ∃ m : Nat, m ≤ o.2.length ∧ i2 = .int .i64 m ∧ Hid (Below w4.heap.size w4 w5)) (fun i2 _ => o.2.length - (intOf i2).toNat)
      case atStart => exact ⟨0, Nat.zero_le _, rfl, Below.refl _ _⟩
      case round =>
        obtain ⟨m, hm, rfl, HB5⟩ := hrel
        rename World => w5
        by_cases hlt2 : m < o.2.length
        · obtain ⟨ad2, Aq, cq, e2, z0, z1, hlq, hcq⟩ := at_T41 HC4.out m (by omega) (by omega)
          subst e2
          replace z0 := (HB5.out.cell (World.block_lt_of_cell? w4 _ z0)).trans z0
          replace z1 := (HB5.out.cell (World.block_lt_of_cell? w4 _ z1)).trans z1
          simp only [Int.toNat_natCast] at z0 z1
          have hpe : rd_T41 o.2 m = o.2[m] := by simp [rd_T41, List.getD_eq_getElem?_getD, hlt2]
          have hpg := HGr.out (rd_T41 o.2 m) (by rw [hpe]; exact List.getElem_mem _)
          have HPg := hid hpg
          have HLq := hid hlq
          have HLt2 := hid hlt2
          have HBx := hid (show Below w2.heap.size w2 w5 from HBw4.out.trans (HB5.out.mono HBw4.out.size))
          have HBy := hid (show Below w.heap.size w w5 from HB2.out.trans (HBx.out.mono HB2.out.size))
          have HCq := hid (Kd.C_below hcq HB5.out)
          clear hpe hpg hlq hcq
          generalize rd_T41 o.2 m = pm at z0 z1 HPg HLq HCq
          have HBz := hid (below_alloc (Below.refl w5.heap.size w5) (Obj.cells #[Value.slice Aq pm.f0.length cq, Value.float FloatKind.f64 pm.f1] 41))
          go_wp2_with fail
          generalize (w5.alloc (Obj.cells #[Value.slice Aq pm.f0.length cq, Value.float FloatKind.f64 pm.f1] 41)) = w6 at HBz ⊢
          have HB6 := hid (show Below w.heap.size w w6 from HBy.out.trans (HBz.out.mono HBy.out.size))
          refine (aggr_Group.calls k Aq cq pm.f0 A1 c1 l1 a2 o.1 0 w6 (Kd.C_below HCq.out HBz.out) HLq.out (Kd.C_below HR1.out HB6.out) HC1.out (tabs_below HT.out HB6.out) HPg.out).mono ?_
          rintro e w7 ⟨vg, rfl, hog, hb7⟩
          obtain ⟨Ag, cg, rfl, hlg, hrg⟩ := Kd.R_reads hog
          have HLg := hid hlg
          have HCg := hid hrg
          have HB7 := hid (show Below w4.heap.size w4 w7 from HB5.out.trans ((HBz.out.trans (hb7.mono HBz.out.size)).mono HB5.out.size))
          clear hog hb7 hlg hrg z0 z1
          have y07 : w7.cell? ⟨gc, j * 2, none⟩ = some (.slice Al o.1.length cl) := (HB7.out.cell (World.block_lt_of_cell? w4 _ y04)).trans y04
          go_wp2_with fail
          refine (tocsinref04_Same.calls k Ag cg o.1 Al cl o.1 true _ HCg.out HLg.out (Kd.C_below HL4.out HB7.out) HLl.out HLb.out).mono ?_
          rintro e w8 ⟨rfl, hd8⟩
          have HB8 := hid (show Below w4.heap.size w4 w8 from HB7.out.trans (hd8.below.mono HB7.out.size))
          clear hd8 y07
          go_wp2_with fail
          go_roundw
          case rel => exact ⟨m + 1, by have := HLt2.out; omega, by go_num, HB8⟩
          case measure => have := HLt2.out; simp [intOf]; omega
        · obtain rfl : m = o.2.length := by omega
          have HBe := hid (show Below w2.heap.size w2 w5 from HBw4.out.trans (HB5.out.mono HBw4.out.size))
          clear hlt2 hm
          go_wp2_with fail
          go_roundw
          case rel => exact ⟨j + 1, by have := HLt.out; omega, by go_num, by rw [HUp.out]; go_num, HBe⟩
          case measure => have := HLt.out; simp [intOf]; omega
    · obtain rfl : j = outs.length := by omega
      have htot := HA.out.tot
      have hfull : upTo outs outs.length = (outs.map (·.2.length)).sum := by simp [upTo]
      have HBf := hid (show Below w.heap.size w wr from HB2.out.trans (HBw.out.mono HB2.out.size))
      clear hlt hj
      by_cases he : er = 0
      · subst he
        have hn := htot rfl
        rw [← hfull] at hn
        rw [hn]
        clear htot hfull hn
        go_wp2_with fail
        refine (awake_calls _ (tabs_below HT.out HBf.out)).mono ?_
        rintro e w4 ⟨rfl, hb4⟩
        have HBl := hid (HBf.out.trans (hb4.mono HBf.out.size))
        clear hb4
        go_wp2_with fail
        go_ret
        exact ⟨rfl, HBl.out⟩
      · have h1 : (er != 0) = true := by simpa using he
        have h2 : (er == 0) = false := by simpa using he
        have h3 : decide (er = 0) = false := by simpa using he
        clear htot hfull he
        go_wp2_with fail
        refine (awake_calls _ (tabs_below HT.out HBf.out)).mono ?_
        rintro e w4 ⟨rfl, hb4⟩
        have HBl := hid (HBf.out.trans (hb4.mono HBf.out.size))
        clear hb4
        go_wp2_with fail
        go_ret
        exact ⟨rfl, HBl.out⟩
end Go.Proofs.YtoncpeadbhgmaaaGreatDoor.G

set_option linter.unusedVariables false
set_option linter.unusedSectionVars false
namespace Go.Proofs.YtoncpeadbhgmaaaGreatDoor.G

section
variable {κ α : Type} {c : κ → κ → Int} {g : α → κ}
/-- Groups of some things by a key, rising. -/
structure IsGroups (c : κ → κ → Int) (g : α → κ) (all : List α) (gs : List (κ × List α)) : Prop where
  up : gs.Pairwise fun a b => c a.1 b.1 < 0
  part : ∀ x ∈ gs, x.2 = all.filter (fun y => c x.1 (g y) == 0)
  ne : ∀ x ∈ gs, x.2 ≠ []
  has : ∀ a ∈ all, ∃ x ∈ gs, x.1 = g a
theorem up_unique (hc : Lin c) : ∀ (l m : List κ), l.Pairwise (fun a b => c a b < 0) → m.Pairwise (fun a b => c a b < 0) → (∀ a, a ∈ l ↔ a ∈ m) → l = m
  | [], [], _, _, _ => rfl
  | [], b :: m, _, _, h => by have := (h b).2 (by simp); cases this
  | a :: l, [], _, _, h => by have := (h a).1 (by simp); cases this
  | a :: l, b :: m, hl, hm, h => by
    rw [List.pairwise_cons] at hl hm
    have irr : ∀ x, ¬ c x x < 0 := fun x hx => by have := (hc.zero x x).2 rfl; omega
    have asym : ∀ x y, c x y < 0 → ¬ c y x < 0 := fun x y h1 h2 => by have := hc.swap x y; omega
    have e : a = b := by
      rcases List.mem_cons.1 ((h a).1 (by simp)) with e | e
      · exact e
      · rcases List.mem_cons.1 ((h b).2 (by simp)) with e2 | e2
        · exact e2.symm
        · exact absurd (hm.1 a e) (asym _ _ (hl.1 b e2))
    subst e
    congr 1
    refine up_unique hc l m hl.2 hm.2 (fun x => ⟨fun hx => ?_, fun hx => ?_⟩)
    · rcases List.mem_cons.1 ((h x).1 (List.mem_cons_of_mem _ hx)) with e | e
      · subst e; exact absurd (hl.1 x hx) (irr x)
      · exact e
    · rcases List.mem_cons.1 ((h x).2 (List.mem_cons_of_mem _ hx)) with e | e
      · subst e; exact absurd (hm.1 x hx) (irr x)
      · exact e
theorem isGroups_key (hc : Lin c) {all : List α} {gs : List (κ × List α)} (h : IsGroups c g all gs) (k : κ) : k ∈ gs.map (·.1) ↔ ∃ a ∈ all, g a = k := by
  rw [List.mem_map]
  refine ⟨fun ⟨x, hx, e⟩ => ?_, fun ⟨a, ha, e⟩ => ?_⟩
  · have hn := h.ne x hx
    rw [h.part x hx] at hn
    obtain ⟨a, ha⟩ := List.exists_mem_of_ne_nil _ hn
    obtain ⟨h1, h2⟩ := List.mem_filter.1 ha
    exact ⟨a, h1, by rw [← e]; exact ((hc.zero _ _).1 (by simpa using h2)).symm⟩
  · obtain ⟨x, hx, e2⟩ := h.has a ha
    exact ⟨x, hx, e2.trans e⟩
theorem isGroups_unique (hc : Lin c) {all : List α} {gs gs' : List (κ × List α)} (h : IsGroups c g all gs) (h' : IsGroups c g all gs') : gs = gs' := by
  have hk : gs.map (·.1) = gs'.map (·.1) := up_unique hc _ _ (List.pairwise_map.2 h.up) (List.pairwise_map.2 h'.up) (fun k => (isGroups_key hc h k).trans (isGroups_key hc h' k).symm)
  have hl : gs.length = gs'.length := by simpa using congrArg List.length hk
  apply List.ext_getElem hl
  intro i h1 h2
  have hki : (gs.map (·.1))[i]'(by simpa) = (gs'.map (·.1))[i]'(by simpa) := by simp only [hk]
  simp only [List.getElem_map] at hki
  have p1 := h.part gs[i] (List.getElem_mem _)
  have p2 := h'.part gs'[i] (List.getElem_mem _)
  rw [hki] at p1
  exact Prod.ext hki (p1.trans p2.symm)

/-- A thing goes into its group, or a group of its own is made. -/
def gins (c : κ → κ → Int) : List (κ × List α) → κ → α → List (κ × List α)
  | [], k, p => [(k, [p])]
  | x :: r, k, p => if c x.1 k < 0 then x :: gins c r k p else if c x.1 k = 0 then (x.1, x.2 ++ [p]) :: r else (k, [p]) :: x :: r
theorem gins_mem (hc : Lin c) : ∀ (gs : List (κ × List α)) (k : κ) (p : α), gs.Pairwise (fun a b => c a.1 b.1 < 0) → ∀ y, y ∈ gins c gs k p ↔ (y ∈ gs ∧ y.1 ≠ k) ∨ (y.1 = k ∧ ((∃ x ∈ gs, x.1 = k ∧ y.2 = x.2 ++ [p]) ∨ ((∀ x ∈ gs, x.1 ≠ k) ∧ y.2 = [p])))
  | [], k, p, _, y => by
    simp only [gins, List.mem_singleton, List.not_mem_nil, false_and, false_or]
    refine ⟨fun h => by subst h; simp, fun h => by obtain ⟨h1, h2⟩ := h; simp at h2; exact Prod.ext h1 h2⟩
  | x :: r, k, p, hp, y => by
    rw [List.pairwise_cons] at hp
    have irr : ∀ x, ¬ c x x < 0 := fun x hx => by have := (hc.zero x x).2 rfl; omega
    have ih := gins_mem hc r k p hp.2 y
    simp only [gins]
    by_cases h1 : c x.1 k < 0
    · have hne : x.1 ≠ k := fun e => by rw [e] at h1; exact irr _ h1
      rw [if_pos h1, List.mem_cons, ih]
      simp only [List.mem_cons, exists_eq_or_imp, forall_eq_or_imp]
      constructor
      · rintro (h | h | h)
        · subst h; exact .inl ⟨.inl rfl, hne⟩
        · exact .inl ⟨.inr h.1, h.2⟩
        · refine .inr ⟨h.1, ?_⟩
          rcases h.2 with h2 | h2
          · exact .inl (.inr h2)
          · exact .inr ⟨⟨hne, h2.1⟩, h2.2⟩
      · rintro (⟨h | h, h2⟩ | ⟨h, h2⟩)
        · exact .inl h
        · exact .inr (.inl ⟨h, h2⟩)
        · refine .inr (.inr ⟨h, ?_⟩)
          rcases h2 with (h2 | h2) | h2
          · exact absurd h2.1 hne
          · exact .inl h2
          · exact .inr ⟨h2.1.2, h2.2⟩
    · rw [if_neg h1]
      have hr : ∀ z ∈ r, c x.1 z.1 < 0 := hp.1
      by_cases h0 : c x.1 k = 0
      · have e := (hc.zero _ _).1 h0
        rw [if_pos h0]
        have hrk : ∀ z ∈ r, z.1 ≠ k := fun z hz e2 => by have := hr z hz; rw [e2, ← e] at this; exact irr _ this
        simp only [List.mem_cons, exists_eq_or_imp, forall_eq_or_imp]
        constructor
        · rintro (h | h)
          · subst h; exact .inr ⟨e, .inl (.inl ⟨e, rfl⟩)⟩
          · exact .inl ⟨.inr h, hrk y h⟩
        · rintro (⟨h | h, h2⟩ | ⟨h, h2⟩)
          · subst h; exact absurd e h2
          · exact .inr h
          · rcases h2 with (h2 | ⟨z, hz, h3, h4⟩) | h2
            · exact .inl (Prod.ext (h.trans e.symm) h2.2)
            · exact absurd h3 (hrk z hz)
            · exact absurd e h2.1.1
      · rw [if_neg h0]
        have hkx : c k x.1 < 0 := by have := hc.swap x.1 k; omega
        have hxk : x.1 ≠ k := fun e => h0 ((hc.zero _ _).2 e)
        have hrk : ∀ z ∈ r, z.1 ≠ k := fun z hz e2 => by
          have h3 := hc.trans _ _ _ hkx (hr z hz)
          rw [e2] at h3; exact irr _ h3
        simp only [List.mem_cons, exists_eq_or_imp, forall_eq_or_imp]
        constructor
        · rintro (h | h | h)
          · subst h; exact .inr ⟨rfl, .inr ⟨⟨hxk, hrk⟩, rfl⟩⟩
          · subst h; exact .inl ⟨.inl rfl, hxk⟩
          · exact .inl ⟨.inr h, hrk y h⟩
        · rintro (⟨h | h, h2⟩ | ⟨h, h2⟩)
          · exact .inr (.inl h)
          · exact .inr (.inr h)
          · rcases h2 with (h2 | ⟨z, hz, h3, h4⟩) | h2
            · exact absurd h2.1 hxk
            · exact absurd h3 (hrk z hz)
            · exact .inl (Prod.ext h h2.2)
theorem gins_up (hc : Lin c) : ∀ (gs : List (κ × List α)) (k : κ) (p : α), gs.Pairwise (fun a b => c a.1 b.1 < 0) → (gins c gs k p).Pairwise (fun a b => c a.1 b.1 < 0)
  | [], k, p, _ => by simp [gins]
  | x :: r, k, p, hp => by
    have hp0 := hp
    rw [List.pairwise_cons] at hp
    have ih := gins_up hc r k p hp.2
    simp only [gins]
    by_cases h1 : c x.1 k < 0
    · rw [if_pos h1, List.pairwise_cons]
      refine ⟨fun y hy => ?_, ih⟩
      rcases (gins_mem hc r k p hp.2 y).1 hy with h | h
      · exact hp.1 y h.1
      · rw [h.1]; exact h1
    · rw [if_neg h1]
      by_cases h0 : c x.1 k = 0
      · rw [if_pos h0, List.pairwise_cons]; exact hp
      · rw [if_neg h0, List.pairwise_cons]
        have hkx : c k x.1 < 0 := by have := hc.swap x.1 k; omega
        refine ⟨fun y hy => ?_, hp0⟩
        rcases List.mem_cons.1 hy with h | h
        · subst h; exact hkx
        · exact hc.trans _ _ _ hkx (hp.1 y h)
theorem gins_groups (hc : Lin c) {all : List α} {gs : List (κ × List α)} (p : α) (h : IsGroups c g all gs) : IsGroups c g (all ++ [p]) (gins c gs (g p) p) where
  up := gins_up hc _ _ _ h.up
  part := fun x hx => by
    rw [List.filter_append]
    rcases (gins_mem hc _ _ _ h.up x).1 hx with h1 | ⟨h1, h2⟩
    · have : ¬ c x.1 (g p) = 0 := fun e => h1.2 ((hc.zero _ _).1 e)
      simp [h.part x h1.1, this]
    · have h0 : c x.1 (g p) = 0 := (hc.zero _ _).2 h1
      rcases h2 with ⟨z, hz, h3, h4⟩ | ⟨h3, h4⟩
      · rw [h4, h.part z hz, h3, h1]
        simp [(hc.zero (g p) (g p)).2 rfl]
      · have : all.filter (fun y => c x.1 (g y) == 0) = [] := by
          rw [List.filter_eq_nil_iff]
          intro a ha e
          obtain ⟨z, hz, e2⟩ := h.has a ha
          have := (hc.zero _ _).1 (by simpa using e)
          exact h3 z hz (by rw [e2, ← this, h1])
        rw [this, h4]
        simp [h0]
  ne := fun x hx => by
    rcases (gins_mem hc _ _ _ h.up x).1 hx with h1 | ⟨h1, h2⟩
    · exact h.ne x h1.1
    · rcases h2 with ⟨z, hz, h3, h4⟩ | ⟨h3, h4⟩ <;> simp [h4]
  has := fun a ha => by
    rcases List.mem_append.1 ha with h1 | h1
    · obtain ⟨x, hx, e⟩ := h.has a h1
      by_cases e2 : x.1 = g p
      · exact ⟨(g p, x.2 ++ [p]), (gins_mem hc _ _ _ h.up _).2 (.inr ⟨rfl, .inl ⟨x, hx, e2, rfl⟩⟩), by rw [← e, e2]⟩
      · exact ⟨x, (gins_mem hc _ _ _ h.up _).2 (.inl ⟨hx, e2⟩), e⟩
    · have := List.mem_singleton.1 h1
      subst this
      by_cases e2 : ∃ x ∈ gs, x.1 = g a
      · obtain ⟨x, hx, e⟩ := e2
        exact ⟨(g a, x.2 ++ [a]), (gins_mem hc _ _ _ h.up _).2 (.inr ⟨rfl, .inl ⟨x, hx, e, rfl⟩⟩), rfl⟩
      · exact ⟨(g a, [a]), (gins_mem hc _ _ _ h.up _).2 (.inr ⟨rfl, .inr ⟨fun x hx e => e2 ⟨x, hx, e⟩, rfl⟩⟩), rfl⟩
/-- All things, one after another. -/
def gparts (c : κ → κ → Int) (g : α → κ) (all : List α) : List (κ × List α) := all.foldl (fun gs p => gins c gs (g p) p) []
theorem gparts_groups (hc : Lin c) (all : List α) : IsGroups c g all (gparts c g all) := by
  have : ∀ (l done : List α) (gs : List (κ × List α)), IsGroups c g done gs → IsGroups c g (done ++ l) (l.foldl (fun gs p => gins c gs (g p) p) gs) := by
    intro l
    induction l with
    | nil => intro done gs h; simpa using h
    | cons p l ih =>
      intro done gs h
      have := ih (done ++ [p]) _ (gins_groups hc p h)
      simpa using this
  have h0 : IsGroups c g [] [] := ⟨List.Pairwise.nil, (fun x h => by cases h), (fun x h => by cases h), (fun x h => by cases h)⟩
  simpa [gparts] using this all [] [] h0

structure Met (g : α → κ) (done : List α) (keys : List κ) (outs : List (List α)) [DecidableEq κ] : Prop where
  len : keys.length = outs.length
  nodup : keys.Nodup
  part : ∀ (i : Nat) (k : κ) (o : List α), keys[i]? = some k → outs[i]? = some o → o = done.filter (fun y => decide (g y = k)) ∧ o ≠ []
  has : ∀ a ∈ done, g a ∈ keys
theorem met_sorted [DecidableEq κ] (hc : Lin c) {all : List α} {keys : List κ} {outs : List (List α)} (h : Met g all keys outs) (d : κ) (ys : List (Fin outs.length)) (hp : ys.Perm (List.finRange outs.length))
    (hs : ys.Pairwise fun a b => ¬ c (keys.getD b.1 d) (keys.getD a.1 d) < 0) : IsGroups c g all (ys.map fun i => (keys.getD i.1 d, outs[i])) := by
  have hk : ∀ i : Fin outs.length, keys[i.1]? = some (keys.getD i.1 d) := fun i => by
    have : i.1 < keys.length := by rw [h.len]; exact i.2
    simp [List.getD_eq_getElem?_getD, this]
  have inj : ∀ i j : Fin outs.length, keys.getD i.1 d = keys.getD j.1 d → i = j := fun i j e => by
    have h1 : i.1 < keys.length := by rw [h.len]; exact i.2
    have h2 : j.1 < keys.length := by rw [h.len]; exact j.2
    have e1 := hk i
    have e2 := hk j
    rw [e] at e1
    have := List.pairwise_iff_getElem.1 h.nodup
    have e3 : keys[i.1] = keys[j.1] := Option.some.inj (by rw [← List.getElem?_eq_getElem, ← List.getElem?_eq_getElem, e1, e2])
    apply Fin.ext
    rcases Nat.lt_trichotomy i.1 j.1 with hlt | heq | hlt
    · exact absurd e3 (this _ _ h1 h2 hlt)
    · exact heq
    · exact absurd e3.symm (this _ _ h2 h1 hlt)
  have hnd : ys.Nodup := hp.nodup_iff.2 (List.nodup_finRange _)
  refine ⟨List.pairwise_map.2 ?_, fun x hx => ?_, fun x hx => ?_, fun a ha => ?_⟩
  · refine (hs.and hnd).imp ?_
    rintro a b ⟨h1, h2⟩
    have h3 : c (keys.getD a.1 d) (keys.getD b.1 d) ≠ 0 := fun e => h2 (inj _ _ ((hc.zero _ _).1 e))
    have := hc.swap (keys.getD b.1 d) (keys.getD a.1 d)
    simp only
    omega
  · obtain ⟨i, hi, rfl⟩ := List.mem_map.1 hx
    have := (h.part i.1 _ _ (hk i) (List.getElem?_eq_getElem i.2)).1
    simp only
    rw [show outs[i] = outs[i.1] from rfl, this]
    congr 1
    funext y
    rw [Bool.eq_iff_iff]
    simp only [decide_eq_true_eq, beq_iff_eq, hc.zero]
    exact eq_comm
  · obtain ⟨i, hi, rfl⟩ := List.mem_map.1 hx
    exact (h.part i.1 _ _ (hk i) (List.getElem?_eq_getElem i.2)).2
  · obtain ⟨i, hi⟩ := List.getElem?_of_mem (h.has a ha)
    have hil : i < outs.length := by rw [← h.len]; exact (List.getElem?_eq_some_iff.1 hi).1
    refine ⟨_, List.mem_map.2 ⟨⟨i, hil⟩, hp.mem_iff.2 (List.mem_finRange _), rfl⟩, ?_⟩
    simp [List.getD_eq_getElem?_getD, hi]
end
section
variable {κ α : Type} {g : α → κ} [DecidableEq κ]
theorem met_old {done : List α} {keys : List κ} {outs : List (List α)} (h : Met g done keys outs) (p : α) (i : Nat) (hi : keys[i]? = some (g p)) : Met g (done ++ [p]) keys (outs.set i (outs.getD i [] ++ [p])) where
  len := by simp [h.len]
  nodup := h.nodup
  part := fun j k o hk ho => by
    have hil : i < keys.length := (List.getElem?_eq_some_iff.1 hi).1
    have hio : i < outs.length := by rw [← h.len]; exact hil
    rw [List.filter_append]
    by_cases hj : i = j
    · subst hj
      rw [List.getElem?_set_self hio] at ho
      obtain rfl := Option.some.inj ho
      obtain rfl := Option.some.inj (hi.symm.trans hk)
      have := (h.part i _ _ hi (List.getElem?_eq_getElem hio)).1
      simp [List.getD_eq_getElem?_getD, hio, this]
    · rw [List.getElem?_set_ne hj] at ho
      obtain ⟨h1, h2⟩ := h.part j k o hk ho
      refine ⟨?_, h2⟩
      have hne : ¬ g p = k := fun e => by
        subst e
        have := List.pairwise_iff_getElem.1 h.nodup
        have hjl : j < keys.length := (List.getElem?_eq_some_iff.1 hk).1
        have e3 : keys[i] = keys[j] := Option.some.inj (by rw [← List.getElem?_eq_getElem, ← List.getElem?_eq_getElem, hi, hk])
        rcases Nat.lt_or_gt_of_ne hj with hlt | hlt
        · exact absurd e3 (this _ _ hil hjl hlt)
        · exact absurd e3.symm (this _ _ hjl hil hlt)
      rw [h1]
      simp [hne]
  has := fun a ha => by
    rcases List.mem_append.1 ha with h1 | h1
    · exact h.has a h1
    · rw [List.mem_singleton.1 h1]; exact List.mem_of_getElem? hi
theorem met_new {done : List α} {keys : List κ} {outs : List (List α)} (h : Met g done keys outs) (p : α) (hn : g p ∉ keys) : Met g (done ++ [p]) (keys ++ [g p]) ((outs ++ [[]]).set keys.length ((outs ++ [[]]).getD keys.length [] ++ [p])) where
  len := by simp [h.len]
  nodup := by
    rw [List.nodup_append]
    exact ⟨h.nodup, by simp, fun a ha b hb e => by rw [List.mem_singleton.1 hb] at e; subst e; exact hn ha⟩
  part := fun j k o hk ho => by
    rw [List.filter_append]
    have hl := h.len
    by_cases hj : j < keys.length
    · rw [List.getElem?_append_left hj] at hk
      rw [List.getElem?_set_ne (by omega), List.getElem?_append_left (by omega)] at ho
      obtain ⟨h1, h2⟩ := h.part j k o hk ho
      refine ⟨?_, h2⟩
      have hne : ¬ g p = k := fun e => by subst e; exact hn (List.mem_of_getElem? hk)
      rw [h1]
      simp [hne]
    · have hj2 := (List.getElem?_eq_some_iff.1 hk).1
      simp at hj2
      obtain rfl : j = keys.length := by omega
      rw [List.getElem?_set_self (by simp [hl])] at ho
      obtain rfl := Option.some.inj ho
      rw [List.getElem?_append_right (by omega)] at hk
      simp at hk
      subst hk
      have : done.filter (fun y => decide (g y = g p)) = [] := by
        rw [List.filter_eq_nil_iff]
        intro a ha e
        exact hn (by simpa using (of_decide_eq_true e) ▸ h.has a ha)
      rw [this]
      simp [hl]
  has := fun a ha => by
    rcases List.mem_append.1 ha with h1 | h1
    · exact List.mem_append_left _ (h.has a h1)
    · rw [List.mem_singleton.1 h1]; exact List.mem_append_right _ (by simp)
theorem met_nil : Met g ([] : List α) [] [] where
  len := rfl
  nodup := List.nodup_nil
  part := fun i k o hk => by simp at hk
  has := fun a ha => by cases ha
theorem idx_old {β : Type} [BEq β] [LawfulBEq β] {enc : κ → β} {keys : List κ} {k : κ} (hinj : ∀ q ∈ keys, enc q = enc k → q = k) (h : enc k ∈ keys.map enc) : keys[(keys.map enc).idxOf (enc k)]? = some k := by
  have hl := List.idxOf_lt_length_iff.2 h
  have := List.getElem_idxOf hl
  have hl2 : (keys.map enc).idxOf (enc k) < keys.length := by simpa using hl
  rw [List.getElem_map] at this
  rw [List.getElem?_eq_getElem hl2, hinj _ (List.getElem_mem _) this]
theorem idx_new {β : Type} [BEq β] [LawfulBEq β] {ks : List β} {b : β} (h : b ∉ ks) : (ks ++ [b]).idxOf b = ks.length := by
  rw [List.idxOf_append]
  simp [h]
end
section
variable {κ α : Type} {c : κ → κ → Int} {f : α → κ}
/-- A thing goes behind all that do not stand behind it. -/
def vins (c : κ → κ → Int) (f : α → κ) : List α → α → List α
  | [], x => [x]
  | y :: r, x => if c (f y) (f x) > 0 then x :: y :: r else y :: vins c f r x
theorem vins_at : ∀ (l : List α) (x : α) (k : Nat), k ≤ l.length → (∀ i y, l[i]? = some y → k ≤ i → c (f y) (f x) > 0) → (∀ i y, l[i]? = some y → i < k → ¬ c (f y) (f x) > 0) → vins c f l x = l.take k ++ [x] ++ l.drop k
  | [], x, k, _, _, _ => by simp [vins]
  | y :: r, x, 0, _, h1, _ => by
    have := h1 0 y rfl (Nat.le_refl _)
    simp [vins, this]
  | y :: r, x, k + 1, hk, h1, h2 => by
    have h0 := h2 0 y rfl (by omega)
    have ih := vins_at r x k (by simpa using hk) (fun i z hz hi => h1 (i + 1) z (by simpa using hz) (by omega)) (fun i z hz hi => h2 (i + 1) z (by simpa using hz) (by omega))
    simp only [vins, if_neg h0, ih]
    simp
theorem vins_perm : ∀ (l : List α) (x : α), (vins c f l x).Perm (l ++ [x])
  | [], x => List.Perm.refl _
  | y :: r, x => by
    simp only [vins]
    split
    · exact (List.perm_append_comm (l₁ := [x]) (l₂ := y :: r))
    · exact (vins_perm r x).cons y
theorem vins_mem (l : List α) (x y : α) : y ∈ vins c f l x ↔ y ∈ l ∨ y = x := by
  rw [(vins_perm l x).mem_iff]; simp
/-- Rising, equal ones allowed. -/
def Up (c : κ → κ → Int) (f : α → κ) (l : List α) : Prop := l.Pairwise fun a b => ¬ c (f b) (f a) < 0
theorem vins_up (hc : Lin c) : ∀ (l : List α) (x : α), Up c f l → Up c f (vins c f l x)
  | [], x, _ => by simp [vins, Up]
  | y :: r, x, h => by
    have h0 := h
    unfold Up at h
    rw [List.pairwise_cons] at h
    simp only [vins]
    by_cases h1 : c (f y) (f x) > 0
    · rw [if_pos h1]
      unfold Up
      rw [List.pairwise_cons]
      refine ⟨fun z hz => ?_, h0⟩
      rcases List.mem_cons.1 hz with e | e
      · subst e; omega
      · have h2 := h.1 z e
        intro h3
        have s := hc.swap (f y) (f z)
        have s2 := hc.swap (f x) (f z)
        by_cases e0 : c (f y) (f z) = 0
        · rw [← (hc.zero _ _).1 e0] at h3; omega
        · have h4 : c (f y) (f z) < 0 := by omega
          have := hc.trans _ _ _ h4 h3
          omega
    · rw [if_neg h1]
      unfold Up
      rw [List.pairwise_cons]
      refine ⟨fun z hz => ?_, vins_up hc r x h.2⟩
      rcases (vins_mem r x z).1 hz with e | e
      · exact h.1 z e
      · subst e
        have := hc.swap (f y) (f z)
        omega
def isort (c : κ → κ → Int) (f : α → κ) (l : List α) : List α := l.foldl (vins c f) []
theorem isort_snoc (l : List α) (x : α) : isort c f (l ++ [x]) = vins c f (isort c f l) x := by simp [isort]
theorem isort_perm (l : List α) : (isort c f l).Perm l := by
  have : ∀ (l m : List α), (l.foldl (vins c f) m).Perm (m ++ l) := by
    intro l
    induction l with
    | nil => intro m; simp
    | cons x l ih =>
      intro m
      have := (ih (vins c f m x)).trans ((vins_perm m x).append_right l)
      simpa using this
  simpa [isort] using this l []
theorem isort_up (hc : Lin c) (l : List α) : Up c f (isort c f l) := by
  have : ∀ (l m : List α), Up c f m → Up c f (l.foldl (vins c f) m) := by
    intro l
    induction l with
    | nil => intro m h; exact h
    | cons x l ih => intro m h; exact ih _ (vins_up hc m x h)
  exact this l [] List.Pairwise.nil
/-- Are two of one key there? -/
def Twice (c : κ → κ → Int) (f : α → κ) (l : List α) : Prop := ∃ (i j : Nat) (a b : α), i < j ∧ l[i]? = some a ∧ l[j]? = some b ∧ c (f a) (f b) = 0
theorem twice_iff (hc : Lin c) (l : List α) : Twice c f l ↔ ¬ (l.map f).Nodup := by
  constructor
  · rintro ⟨i, j, a, b, hij, ha, hb, h0⟩ hn
    have := List.pairwise_iff_getElem.1 hn i j (by simpa using (List.getElem?_eq_some_iff.1 ha).1) (by simpa using (List.getElem?_eq_some_iff.1 hb).1) hij
    simp only [List.getElem_map] at this
    obtain ⟨_, e1⟩ := List.getElem?_eq_some_iff.1 ha
    obtain ⟨_, e2⟩ := List.getElem?_eq_some_iff.1 hb
    rw [e1, e2] at this
    exact this ((hc.zero _ _).1 h0)
  · intro hn
    unfold List.Nodup at hn
    rw [List.pairwise_iff_getElem] at hn
    simp only [List.getElem_map, List.length_map, ne_eq, Classical.not_forall, Classical.not_not] at hn
    obtain ⟨i, j, hi, hj, hij, e⟩ := hn
    exact ⟨i, j, _, _, hij, List.getElem?_eq_getElem hi, List.getElem?_eq_getElem hj, (hc.zero _ _).2 e⟩
theorem twice_perm (hc : Lin c) {l m : List α} (h : l.Perm m) : Twice c f l ↔ Twice c f m := by
  rw [twice_iff hc, twice_iff hc, (h.map f).nodup_iff]
/-- In a rising list two of one key stand side by side. -/
theorem twice_near (hc : Lin c) {l : List α} (hu : Up c f l) (h : Twice c f l) : ∃ i a b, l[i]? = some a ∧ l[i + 1]? = some b ∧ c (f a) (f b) = 0 := by
  obtain ⟨i, j, a, b, hij, ha, hb, h0⟩ := h
  have hjl := (List.getElem?_eq_some_iff.1 hb).1
  refine ⟨i, a, l[i + 1], ha, List.getElem?_eq_getElem (by omega), ?_⟩
  by_cases e : i + 1 = j
  · subst e
    obtain ⟨_, e2⟩ := List.getElem?_eq_some_iff.1 hb
    rw [e2]; exact h0
  · have hp := List.pairwise_iff_getElem.1 hu
    have hil := (List.getElem?_eq_some_iff.1 ha).1
    have h1 := hp i (i + 1) hil (by omega) (by omega)
    have h2 := hp (i + 1) j (by omega) hjl (by omega)
    obtain ⟨_, e1⟩ := List.getElem?_eq_some_iff.1 ha
    obtain ⟨_, e2⟩ := List.getElem?_eq_some_iff.1 hb
    rw [e1] at h1
    rw [e2, ← (hc.zero _ _).1 h0] at h2
    have := hc.swap (f a) (f l[i + 1])
    omega
theorem up_eq (hc : Lin c) : ∀ (l m : List α), Up c f l → Up c f m → l.Perm m → ¬ Twice c f l → l = m
  | [], m, _, _, hp, _ => (List.nil_perm.1 hp).symm
  | a :: l, [], _, _, hp, _ => by have := hp.length_eq; simp at this
  | a :: l, b :: m, hl, hm, hp, ht => by
    have hn : (((a :: l) : List α).map f).Nodup := Classical.not_not.1 (fun h => ht ((twice_iff hc _).2 h))
    have hl0 := hl
    have hm0 := hm
    unfold Up at hl hm
    rw [List.pairwise_cons] at hl hm
    rw [List.map_cons, List.nodup_cons] at hn
    have e : a = b := by
      rcases List.mem_cons.1 ((hp.mem_iff (a := b)).2 (by simp)) with h | h
      · exact h.symm
      · rcases List.mem_cons.1 ((hp.mem_iff (a := a)).1 (by simp)) with h2 | h2
        · exact h2
        · have h3 := hl.1 b h
          have h4 := hm.1 a h2
          have := hc.swap (f a) (f b)
          have h5 : f a = f b := (hc.zero _ _).1 (by omega)
          exact absurd (List.mem_map.2 ⟨b, h, h5.symm⟩) hn.1
    subst e
    have hp2 : l.Perm m := (List.perm_cons a).1 hp
    rw [up_eq hc l m hl.2 hm.2 hp2 (fun h => by
      have := (twice_iff hc l).1 h
      exact this hn.2)]
theorem up_isort (hc : Lin c) {l ys : List α} (hp : ys.Perm l) (hu : Up c f ys) (ht : ¬ Twice c f l) : ys = isort c f l :=
  up_eq hc _ _ hu (isort_up hc l) (hp.trans (isort_perm l).symm) (fun h => ht ((twice_perm hc hp).1 h))
/-- What stands ahead of the place of a thing: has the last one its key? -/
theorem twice_snoc (hc : Lin c) (l : List α) (x : α) : Twice c f (l ++ [x]) ↔ Twice c f l ∨ ∃ y ∈ l, c (f y) (f x) = 0 := by
  rw [twice_iff hc, twice_iff hc, List.map_append, List.map_cons, List.map_nil, List.nodup_append]
  simp only [List.mem_map, List.mem_singleton, hc.zero]
  constructor
  · intro h
    by_cases h1 : (l.map f).Nodup
    · refine .inr ?_
      apply Classical.byContradiction
      intro h2
      exact h ⟨h1, by simp, fun a ⟨y, hy, e⟩ b hb e2 => h2 ⟨y, hy, by rw [e, e2, hb]⟩⟩
    · exact .inl h1
  · rintro (h | ⟨y, hy, e⟩) ⟨h1, _, h2⟩
    · exact h h1
    · exact h2 (f y) ⟨y, hy, rfl⟩ (f x) rfl e
/-- Where a thing goes in a rising list, as one finds it from behind. -/
theorem place_near (hc : Lin c) {l : List α} (hu : Up c f l) (x : α) (k : Nat) (hk : k ≤ l.length) (h1 : ∀ i y, l[i]? = some y → k ≤ i → c (f y) (f x) > 0) (h2 : ∀ y, 0 < k → l[k - 1]? = some y → ¬ c (f y) (f x) > 0) :
    vins c f l x = l.take k ++ [x] ++ l.drop k ∧ ((∃ y ∈ l, c (f y) (f x) = 0) ↔ ∃ y, 0 < k ∧ l[k - 1]? = some y ∧ c (f y) (f x) = 0) := by
  have hlow : ∀ i y, l[i]? = some y → i < k → ¬ c (f y) (f x) > 0 := fun i y hy hi => by
    by_cases e : i = k - 1
    · subst e; exact h2 y (by omega) hy
    · have hp := List.pairwise_iff_getElem.1 hu
      have h3 := hp i (k - 1) (by omega) (by omega) (by omega)
      have h4 := h2 l[k - 1] (by omega) (List.getElem?_eq_getElem (by omega))
      obtain ⟨_, e1⟩ := List.getElem?_eq_some_iff.1 hy
      rw [e1] at h3
      intro h5
      have s1 := hc.swap (f y) (f l[k - 1])
      have s2 := hc.swap (f x) (f l[k - 1])
      have s3 := hc.swap (f x) (f y)
      by_cases e0 : c (f y) (f l[k - 1]) = 0
      · rw [(hc.zero _ _).1 e0] at h5; exact h4 h5
      · have h6 := hc.trans (f x) (f y) (f l[k - 1]) (by omega) (by omega)
        omega
  refine ⟨vins_at l x k hk h1 hlow, ⟨fun ⟨y, hy, e⟩ => ?_, fun ⟨y, _, hy, e⟩ => ⟨y, List.mem_of_getElem? hy, e⟩⟩⟩
  obtain ⟨i, hi⟩ := List.getElem?_of_mem hy
  have hik : i < k := Nat.lt_of_not_le (fun h => by have := h1 i y hi h; omega)
  refine ⟨l[k - 1], by omega, List.getElem?_eq_getElem (by omega), ?_⟩
  have h4 := h2 l[k - 1] (by omega) (List.getElem?_eq_getElem (by omega))
  by_cases e1 : i = k - 1
  · subst e1
    obtain ⟨_, e2⟩ := List.getElem?_eq_some_iff.1 hi
    rw [e2]; exact e
  · have hp := List.pairwise_iff_getElem.1 hu
    have h3 := hp i (k - 1) (by omega) (by omega) (by omega)
    obtain ⟨_, e2⟩ := List.getElem?_eq_some_iff.1 hi
    rw [e2, (hc.zero _ _).1 e] at h3
    omega
end
end Go.Proofs.YtoncpeadbhgmaaaGreatDoor.G

set_option linter.unusedVariables false
set_option linter.unusedSimpArgs false
namespace Go.Proofs.YtoncpeadbhgmaaaGreatDoor.G
open Go.RowKit Go.Sort Go.Proofs.YtoncpeadbhgmaaaGreatDoorW.PrintWords

theorem and31 : ∀ X : Fin 256, Go.bits .and .i64 ((X.val : Nat) : Int) 31 = ((X.val % 32 : Nat) : Int) := by decide +kernel
theorem and31_n (x : Nat) (h : x < 256) : Go.bits .and .i64 (x : Int) 31 = ((x % 32 : Nat) : Int) := and31 ⟨x, h⟩
theorem and15 : ∀ X : Fin 256, Go.bits .and .i64 ((X.val : Nat) : Int) 15 = ((X.val % 16 : Nat) : Int) := by decide +kernel
theorem and15_n (x : Nat) (h : x < 256) : Go.bits .and .i64 (x : Int) 15 = ((x % 16 : Nat) : Int) := and15 ⟨x, h⟩
theorem and7i : ∀ X : Fin 256, Go.bits .and .i64 ((X.val : Nat) : Int) 7 = ((X.val % 8 : Nat) : Int) := by decide +kernel
theorem and7i_n (x : Nat) (h : x < 256) : Go.bits .and .i64 (x : Int) 7 = ((x % 8 : Nat) : Int) := and7i ⟨x, h⟩
theorem and192 : ∀ X : Fin 256, Go.bits .and .u8 ((X.val : Nat) : Int) 192 = ((X.val / 64 * 64 : Nat) : Int) := by decide +kernel
theorem and192_n (x : Nat) (h : x < 256) : Go.bits .and .u8 (x : Int) 192 = ((x / 64 * 64 : Nat) : Int) := and192 ⟨x, h⟩
theorem and63 : ∀ X : Fin 256, Go.bits .and .u8 ((X.val : Nat) : Int) 63 = ((X.val % 64 : Nat) : Int) := by decide +kernel
theorem and63_n (x : Nat) (h : x < 256) : Go.bits .and .u8 (x : Int) 63 = ((x % 64 : Nat) : Int) := and63 ⟨x, h⟩

/-- The byte at a place, 0 beyond the end. -/
def byt (s : ByteArray) (i : Nat) : Nat := (s.data.toList.getD i 0).toNat
theorem byt_lt (s : ByteArray) (i : Nat) : byt s i < 256 := (s.data.toList.getD i 0).toNat_lt
theorem bt_byt (s : ByteArray) (i : Nat) : bt s (i : Int) = (byt s i : Int) := by
  unfold bt byt
  simp only [Int.toNat_natCast]
  split
  · rename_i h
    have h' : i < s.data.toList.length := by rw [data_length]; exact h
    rw [List.getD_eq_getElem?_getD, List.getElem?_eq_getElem h']; rfl
  · rename_i h
    have h' : s.data.toList.length ≤ i := by rw [data_length]; omega
    rw [List.getD_eq_getElem?_getD, List.getElem?_eq_none h']; rfl
theorem byt_drop (s : ByteArray) (i j : Nat) : ((s.data.toList.drop i).getD j 0).toNat = byt s (i + j) := by
  unfold byt
  rw [List.getD_eq_getElem?_getD, List.getD_eq_getElem?_getD, List.getElem?_drop]

theorem wr64 (a : Nat) (h : a < 4611686018427387904) : wrap64 (a : Int) = (a : Int) := wrap_in _ (by omega) (by omega)
theorem wr_add (a b : Nat) (h : a + b < 4611686018427387904) : wrap64 ((a : Int) + (b : Int)) = ((a + b : Nat) : Int) := by rw [← Int.natCast_add]; exact wr64 _ h
theorem wr_mul (a b : Nat) (h : a * b < 4611686018427387904) : wrap64 ((a : Int) * (b : Int)) = ((a * b : Nat) : Int) := by rw [← Int.natCast_mul]; exact wr64 _ h

section
variable (s : ByteArray) (hs : s.size ≤ 140737488355328)
include hs
theorem u_go (i n r j : Nat) (least : Int) (R : Bool) (hi : i ≤ s.size) (hn : n ≤ 3) (hj : 1 ≤ j) (hjn : j ≤ n) (hlt : i + j < s.size) (hc : byt s (i + j) / 64 = 2) (hr : r < 1000000000)
    (h : Ev (fun k => tocsinref01_Utf8.l1 k s (i : Int) (n : Int) least ((r * 64 + byt s (i + j) % 64 : Nat) : Int) ((j + 1 : Nat) : Int)) R) :
    Ev (fun k => tocsinref01_Utf8.l1 k s (i : Int) (n : Int) least (r : Int) (j : Int)) R := by
  refine Ev.step (fun k => by rw [tocsinref01_Utf8.l1]) ?_
  have e1 := wr_add i j (by omega)
  have hb := byt_lt s (i + j)
  have e2 := and192_n (byt s (i + j)) hb
  have e3 := and63_n (byt s (i + j)) hb
  rw [e1, bt_byt, e2, e3]
  clear e1 e2 e3
  have h1 : ((j : Int) ≤ (n : Int)) := by omega
  have h2 : ¬ (((i + j : Nat) : Int) ≥ (s.size : Int)) := by omega
  have h3 : (0 : Int) ≤ ((i + j : Nat) : Int) := by omega
  have h4 : ((i + j : Nat) : Int) < (s.size : Int) := by omega
  have h5 : ((byt s (i + j) / 64 * 64 : Nat) : Int) = 128 := by rw [hc]; rfl
  have e4 := wr64 (byt s (i + j) % 64) (by omega)
  have e5 : wrap64 ((r : Int) * 64) = ((r * 64 : Nat) : Int) := wr_mul r 64 (by omega)
  have e6 := wr_add (r * 64) (byt s (i + j) % 64) (by omega)
  simp only [h1, h2, h3, h4, h5, if_true, if_false, e4, e5, e6, wrap_succ j (by omega)]
  exact h
theorem u_bad (i n r j : Nat) (least : Int) (hi : i ≤ s.size) (hn : n ≤ 3) (hjn : j ≤ n) (hc : i + j < s.size → byt s (i + j) / 64 ≠ 2) :
    Ev (fun k => tocsinref01_Utf8.l1 k s (i : Int) (n : Int) least (r : Int) (j : Int)) false := by
  refine Ev.step (fun k => by rw [tocsinref01_Utf8.l1]) ?_
  have e1 := wr_add i j (by omega)
  rw [e1]
  have h1 : ((j : Int) ≤ (n : Int)) := by omega
  by_cases hlt : i + j < s.size
  · have hb := byt_lt s (i + j)
    have e2 := and192_n (byt s (i + j)) hb
    rw [bt_byt, e2]
    clear e2
    have h2 : ¬ (((i + j : Nat) : Int) ≥ (s.size : Int)) := by omega
    have h3 : (0 : Int) ≤ ((i + j : Nat) : Int) := by omega
    have h4 : ((i + j : Nat) : Int) < (s.size : Int) := by omega
    have h5 : ¬ ((byt s (i + j) / 64 * 64 : Nat) : Int) = 128 := by have := hc hlt; omega
    simp only [h1, h2, h3, h4, h5, if_true, if_false]
    exact Ev.now _
  · have h2 : (((i + j : Nat) : Int) ≥ (s.size : Int)) := by omega
    simp only [h1, h2, if_true]
    exact Ev.now _
theorem u_end (i n r j least : Nat) (R : Bool) (hi : i + n < s.size) (hn : n ≤ 3) (hjn : n < j)
    (h : if r < least ∨ r > 1114111 ∨ (55296 ≤ r ∧ r < 57344) then R = false else Ev (fun k => tocsinref01_Utf8.l0 k s ((i + n + 1 : Nat) : Int)) R) :
    Ev (fun k => tocsinref01_Utf8.l1 k s (i : Int) (n : Int) (least : Int) (r : Int) (j : Int)) R := by
  refine Ev.step (fun k => by rw [tocsinref01_Utf8.l1]) ?_
  have h1 : ¬ ((j : Int) ≤ (n : Int)) := by omega
  have e1 : wrap64 (wrap64 ((i : Int) + (n : Int)) + 1) = ((i + n + 1 : Nat) : Int) := by
    rw [wr_add i n (by omega)]; exact wr_add (i + n) 1 (by omega)
  rw [e1]
  simp only [h1, if_false]
  by_cases b1 : (r : Int) < (least : Int)
  · rw [if_pos (by omega)] at h; subst h
    simp only [b1, if_true]; exact Ev.now _
  · by_cases b2 : (r : Int) > 1114111
    · rw [if_pos (by omega)] at h; subst h
      simp only [b1, b2, if_true, if_false]; exact Ev.now _
    · by_cases b3 : (r : Int) ≥ 55296
      · by_cases b4 : (r : Int) < 57344
        · rw [if_pos (by omega)] at h; subst h
          simp only [b1, b2, b3, b4, if_true, if_false]; exact Ev.now _
        · rw [if_neg (by omega)] at h
          simp only [b1, b2, b3, b4, if_true, if_false]; exact h
      · rw [if_neg (by omega)] at h
        simp only [b1, b2, b3, if_false]; exact h

def uCode (s : ByteArray) (i n r0 : Nat) : Nat :=
  if n = 1 then r0 * 64 + byt s (i + 1) % 64 else if n = 2 then (r0 * 64 + byt s (i + 1) % 64) * 64 + byt s (i + 2) % 64 else ((r0 * 64 + byt s (i + 1) % 64) * 64 + byt s (i + 2) % 64) * 64 + byt s (i + 3) % 64
def uBad (r least : Nat) : Prop := r < least ∨ r > 1114111 ∨ (55296 ≤ r ∧ r < 57344)
def uTail (s : ByteArray) (i n : Nat) : Prop := ∀ j, 1 ≤ j → j ≤ n → i + j < s.size ∧ byt s (i + j) / 64 = 2
theorem u_run (i n r0 least : Nat) (R : Bool) (hi : i < s.size) (hn1 : 1 ≤ n) (hn : n ≤ 3) (hr : r0 < 64)
    (hg : uTail s i n → ¬ uBad (uCode s i n r0) least → Ev (fun k => tocsinref01_Utf8.l0 k s ((i + n + 1 : Nat) : Int)) R)
    (hb : ¬ (uTail s i n ∧ ¬ uBad (uCode s i n r0) least) → R = false) :
    Ev (fun k => tocsinref01_Utf8.l1 k s (i : Int) (n : Int) (least : Int) (r0 : Int) ((1 : Nat) : Int)) R := by
  have f1 : byt s (i + 1) % 64 < 64 := Nat.mod_lt _ (by omega)
  have f2 : byt s (i + 2) % 64 < 64 := Nat.mod_lt _ (by omega)
  have f3 : byt s (i + 3) % 64 < 64 := Nat.mod_lt _ (by omega)
  have fin : ∀ r j, r = uCode s i n r0 → n < j → uTail s i n → Ev (fun k => tocsinref01_Utf8.l1 k s (i : Int) (n : Int) (least : Int) (r : Int) (j : Int)) R := by
    intro r j hrr hj ht
    refine u_end s hs i n r j least R (ht n hn1 (Nat.le_refl _)).1 hn hj ?_
    split
    · rename_i h; exact hb (fun hh => hh.2 (by unfold uBad; rw [← hrr]; exact h))
    · rename_i h; exact hg ht (by unfold uBad; rw [← hrr]; exact h)
  by_cases c1 : i + 1 < s.size ∧ byt s (i + 1) / 64 = 2
  · refine u_go s hs i n r0 1 least R (by omega) hn (by omega) hn1 c1.1 c1.2 (by omega) ?_
    by_cases n1 : n = 1
    · exact fin _ 2 (by simp [uCode, n1]) (by omega) (fun j a b => by obtain rfl : j = 1 := by omega
                                                                      exact c1)
    · by_cases c2 : i + 2 < s.size ∧ byt s (i + 2) / 64 = 2
      · refine u_go s hs i n _ 2 least R (by omega) hn (by omega) (by omega) c2.1 c2.2 (by omega) ?_
        by_cases n2 : n = 2
        · exact fin _ 3 (by simp [uCode, n2]) (by omega) (fun j a b => by rcases (show j = 1 ∨ j = 2 by omega) with rfl | rfl <;> assumption)
        · by_cases c3 : i + 3 < s.size ∧ byt s (i + 3) / 64 = 2
          · refine u_go s hs i n _ 3 least R (by omega) hn (by omega) (by omega) c3.1 c3.2 (by omega) ?_
            exact fin _ 4 (by simp [uCode, n1, n2]) (by omega) (fun j a b => by rcases (show j = 1 ∨ j = 2 ∨ j = 3 by omega) with rfl | rfl | rfl <;> assumption)
          · rw [hb (fun hh => c3 (hh.1 3 (by omega) (by omega)))]
            exact u_bad s hs i n _ 3 least (by omega) hn (by omega) (fun hl hc => c3 ⟨hl, hc⟩)
      · rw [hb (fun hh => c2 (hh.1 2 (by omega) (by omega)))]
        exact u_bad s hs i n _ 2 least (by omega) hn (by omega) (fun hl hc => c2 ⟨hl, hc⟩)
  · rw [hb (fun hh => c1 (hh.1 1 (by omega) (by omega)))]
    exact u_bad s hs i n _ 1 least (by omega) hn (by omega) (fun hl hc => c1 ⟨hl, hc⟩)

omit hs in
/-- What the library's decoder says of a lead byte, in the reference's words. -/
theorem dec_lead (i n least : Nat) (hi : i < s.size) (h : (194 ≤ byt s i ∧ byt s i < 224 ∧ n = 1 ∧ least = 128) ∨ (224 ≤ byt s i ∧ byt s i < 240 ∧ n = 2 ∧ least = 2048) ∨ (240 ≤ byt s i ∧ byt s i < 245 ∧ n = 3 ∧ least = 65536))
    (r0 : Nat) (hr0 : r0 = if n = 1 then byt s i % 32 else if n = 2 then byt s i % 16 else byt s i % 8) :
    (uTail s i n → ¬ uBad (uCode s i n r0) least → ¬ ((Lib.decodeL (s.data.toList.drop i)).1 = 65533 ∧ (Lib.decodeL (s.data.toList.drop i)).2 = 1) ∧ (Lib.decodeL (s.data.toList.drop i)).2 = n + 1) ∧
    (¬ (uTail s i n ∧ ¬ uBad (uCode s i n r0) least) → (Lib.decodeL (s.data.toList.drop i)).1 = 65533 ∧ (Lib.decodeL (s.data.toList.drop i)).2 = 1) := by
  have hlen : (s.data.toList.drop i).length = s.size - i := by rw [List.length_drop, data_length]
  rw [Lib.decodeL_N, hlen, byt_drop, byt_drop, byt_drop, byt_drop]
  have p1 := byt_lt s (i + 1)
  have p2 := byt_lt s (i + 2)
  have p3 := byt_lt s (i + 3)
  have p0 := byt_lt s i
  simp only [Nat.add_zero]
  have ht : uTail s i n ↔ (1 ≤ n → 1 < s.size - i ∧ byt s (i + 1) / 64 = 2) ∧ (2 ≤ n → 2 < s.size - i ∧ byt s (i + 2) / 64 = 2) ∧ (3 ≤ n → 3 < s.size - i ∧ byt s (i + 3) / 64 = 2) := by
    have hn : n ≤ 3 := by omega
    constructor
    · intro hh
      exact ⟨fun hq => ⟨by have := (hh 1 (by omega) hq).1; omega, (hh 1 (by omega) hq).2⟩, fun hq => ⟨by have := (hh 2 (by omega) hq).1; omega, (hh 2 (by omega) hq).2⟩, fun hq => ⟨by have := (hh 3 (by omega) hq).1; omega, (hh 3 (by omega) hq).2⟩⟩
    · rintro ⟨h1, h2, h3⟩ j j1 j2
      rcases (show j = 1 ∨ j = 2 ∨ j = 3 by omega) with rfl | rfl | rfl
      · exact ⟨by have := (h1 j2).1; omega, (h1 j2).2⟩
      · exact ⟨by have := (h2 j2).1; omega, (h2 j2).2⟩
      · exact ⟨by have := (h3 j2).1; omega, (h3 j2).2⟩
  rw [ht]
  clear ht hlen
  unfold uBad uCode
  generalize byt s i = b0 at *
  generalize byt s (i + 1) = b1 at *
  generalize byt s (i + 2) = b2 at *
  generalize byt s (i + 3) = b3 at *
  generalize s.size - i = m at *
  rcases h with ⟨h1, h2, rfl, rfl⟩ | ⟨h1, h2, rfl, rfl⟩ | ⟨h1, h2, rfl, rfl⟩
  · simp only [if_true] at hr0 ⊢
    subst hr0
    unfold Lib.decodeN
    have k0 : ¬ b0 < 128 := by omega
    have k1 : b0 / 32 = 6 := by omega
    have k2 : ¬ b0 / 16 = 14 := by omega
    have k3 : ¬ b0 / 8 = 30 := by omega
    simp only [k0, k1, k2, k3, true_and, false_and, if_false]
    split <;> (try split) <;> constructor <;> intros <;> omega
  · simp only [show ¬ (2 = 1) by omega, if_true, if_false] at hr0 ⊢
    subst hr0
    unfold Lib.decodeN
    have k0 : ¬ b0 < 128 := by omega
    have k1 : ¬ b0 / 32 = 6 := by omega
    have k2 : b0 / 16 = 14 := by omega
    have k3 : ¬ b0 / 8 = 30 := by omega
    simp only [k0, k1, k2, k3, true_and, false_and, if_false]
    split <;> (try split) <;> constructor <;> intros <;> omega
  · simp only [show ¬ (3 = 1) by omega, show ¬ (3 = 2) by omega, if_false] at hr0 ⊢
    subst hr0
    unfold Lib.decodeN
    have k0 : ¬ b0 < 128 := by omega
    have k1 : ¬ b0 / 32 = 6 := by omega
    have k2 : ¬ b0 / 16 = 14 := by omega
    have k3 : b0 / 8 = 30 := by omega
    simp only [k0, k1, k2, k3, true_and, false_and, if_false]
    split <;> (try split) <;> constructor <;> intros <;> omega

theorem utf8_ev : ∀ (d i : Nat), i + d = s.size → Ev (fun k => tocsinref01_Utf8.l0 k s (i : Int)) (Lib.validD (s.data.toList.drop i)) := by
  intro d
  induction d using Nat.strongRecOn with
  | _ d ih =>
  intro i h
  refine Ev.step (fun k => by rw [tocsinref01_Utf8.l0]) ?_
  by_cases hi : i < s.size
  · have h1 : (i : Int) < (s.size : Int) := by omega
    have h0 : (0 : Int) ≤ i := by omega
    have hb := byt_lt s i
    have ew := wr64 (byt s i) (by omega)
    rw [bt_byt, ew]
    simp only [h1, h0, if_true]
    have hl : i < s.data.toList.length := by rw [data_length]; exact hi
    have hne : s.data.toList.drop i ≠ [] := by rw [List.drop_eq_getElem_cons hl]; simp
    have hrun : ∀ n r0 least : Nat, ((194 ≤ byt s i ∧ byt s i < 224 ∧ n = 1 ∧ least = 128) ∨ (224 ≤ byt s i ∧ byt s i < 240 ∧ n = 2 ∧ least = 2048) ∨ (240 ≤ byt s i ∧ byt s i < 245 ∧ n = 3 ∧ least = 65536)) →
        r0 = (if n = 1 then byt s i % 32 else if n = 2 then byt s i % 16 else byt s i % 8) → Ev (fun k => tocsinref01_Utf8.l1 k s (i : Int) (n : Int) (least : Int) (r0 : Int) ((1 : Nat) : Int)) (Lib.validD (s.data.toList.drop i)) := by
      intro n r0 least hcl hr0
      obtain ⟨hg, hbad⟩ := dec_lead s i n least hi hcl r0 hr0
      refine u_run s hs i n r0 least _ hi (by omega) (by omega) (by have : r0 < 32 := by (rw [hr0]; repeat' split) <;> omega
                                                                    omega) (fun ht hu => ?_) (fun hnot => ?_)
      · obtain ⟨g1, g2⟩ := hg ht hu
        rw [Lib.validD_step _ hne, if_neg g1, g2, List.drop_drop]
        have hlt := (ht n (by omega) (Nat.le_refl _)).1
        exact ih (d - (n + 1)) (by omega) (i + n + 1) (by omega)
      · rw [Lib.validD_step _ hne, if_pos (hbad hnot)]
    by_cases a : byt s i < 128
    · have a1 : ((byt s i : Nat) : Int) < 128 := by omega
      simp only [a1, if_true, wrap_succ i (by omega)]
      have hby : (s.data.toList[i]'hl).toNat < 128 := by
        have : byt s i = (s.data.toList[i]'hl).toNat := by unfold byt; rw [List.getD_eq_getElem?_getD, List.getElem?_eq_getElem hl]; rfl
        omega
      rw [List.drop_eq_getElem_cons hl, Lib.validD_cons _ _ hby]
      exact ih (d - 1) (by omega) (i + 1) (by omega)
    · have a1 : ¬ ((byt s i : Nat) : Int) < 128 := by omega
      have bad : ((128 ≤ byt s i ∧ byt s i < 194) ∨ (245 ≤ byt s i ∧ byt s i < 256)) → Lib.validD (s.data.toList.drop i) = false := by
        intro hcl
        have hd := Lib.decodeN_bad (s.data.toList.drop i).length (byt s i) (byt s (i + 1)) (byt s (i + 2)) (byt s (i + 3)) hcl
        rw [Lib.validD_step _ hne, Lib.decodeL_N, byt_drop, byt_drop, byt_drop, byt_drop, Nat.add_zero, hd]
        rfl
      by_cases b : byt s i < 194
      · have b1 : ¬ ((byt s i : Nat) : Int) ≥ 194 := by omega
        simp only [a1, b1, if_false]
        refine Ev.step (fun k => by rw [tocsinref01_Utf8.j1]) ?_
        have b2 : ¬ ((byt s i : Nat) : Int) ≥ 224 := by omega
        simp only [b2, Bool.false_eq_true, if_false]
        refine Ev.step (fun k => by rw [tocsinref01_Utf8.j2]) ?_
        have b3 : ¬ ((byt s i : Nat) : Int) ≥ 240 := by omega
        simp only [b3, Bool.false_eq_true, if_false]
        rw [bad (.inl ⟨by omega, b⟩)]; exact Ev.now _
      · have b1 : ((byt s i : Nat) : Int) ≥ 194 := by omega
        simp only [a1, b1, if_true, if_false]
        refine Ev.step (fun k => by rw [tocsinref01_Utf8.j1]) ?_
        by_cases c : byt s i < 224
        · have c1 : ((byt s i : Nat) : Int) < 224 := by omega
          simp only [c1, decide_true, if_true]
          rw [and31_n _ hb]
          refine Ev.step (fun k => by rw [tocsinref01_Utf8.j3]) ?_
          exact hrun 1 _ 128 (.inl ⟨by omega, c, rfl, rfl⟩) rfl
        · have c1 : ¬ ((byt s i : Nat) : Int) < 224 := by omega
          have c2 : ((byt s i : Nat) : Int) ≥ 224 := by omega
          simp only [c1, c2, decide_false, Bool.false_eq_true, if_true, if_false]
          refine Ev.step (fun k => by rw [tocsinref01_Utf8.j2]) ?_
          by_cases e : byt s i < 240
          · have e1 : ((byt s i : Nat) : Int) < 240 := by omega
            simp only [e1, decide_true, if_true]
            rw [and15_n _ hb]
            refine Ev.step (fun k => by rw [tocsinref01_Utf8.j3]) ?_
            exact hrun 2 _ 2048 (.inr (.inl ⟨by omega, e, rfl, rfl⟩)) rfl
          · have e1 : ¬ ((byt s i : Nat) : Int) < 240 := by omega
            have e2 : ((byt s i : Nat) : Int) ≥ 240 := by omega
            simp only [e1, e2, decide_false, Bool.false_eq_true, if_true, if_false]
            by_cases f : byt s i < 245
            · have f1 : ((byt s i : Nat) : Int) < 245 := by omega
              simp only [f1, if_true]
              rw [and7i_n _ hb]
              refine Ev.step (fun k => by rw [tocsinref01_Utf8.j3]) ?_
              exact hrun 3 _ 65536 (.inr (.inr ⟨by omega, f, rfl, rfl⟩)) rfl
            · have f1 : ¬ ((byt s i : Nat) : Int) < 245 := by omega
              simp only [f1, if_false]
              rw [bad (.inr ⟨by omega, hb⟩)]; exact Ev.now _
  · have h1 : ¬ (i : Int) < (s.size : Int) := by omega
    simp only [h1, if_false]
    rw [List.drop_eq_nil_of_le (by rw [data_length]; omega)]
    exact Ev.now _
theorem utf8_f : Ev (fun k => tocsinref01_Utf8.f k s) (Lib.validD s.data.toList) := utf8_ev s hs s.size 0 (by omega)
end
end Go.Proofs.YtoncpeadbhgmaaaGreatDoor.G

set_option linter.unusedVariables false
set_option linter.unusedSimpArgs false
namespace Go.Proofs.YtoncpeadbhgmaaaGreatDoor.G
open Go.RowKit Go.Sort Go.Proofs.YtoncpeadbhgmaaaGreatDoorW.PrintWords

theorem rletter_f (c : Int) : tocsinref04_letter.f c = some (lett c) := by
  unfold tocsinref04_letter.f lett
  repeat' split
  all_goals (simp_all; try omega)
theorem rdigit_f (c : Int) : tocsinref04_digit.f c = some (digt c) := by
  unfold tocsinref04_digit.f digt
  split <;> simp_all <;> omega
theorem lett_digt (c : Int) (h : lett c = true) : digt c = false := by
  unfold lett at h; unfold digt
  simp only [Bool.or_eq_true, Bool.and_eq_true, decide_eq_true_eq, beq_iff_eq] at h
  simp only [Bool.and_eq_false_iff, decide_eq_false_iff_not]
  omega

theorem rname_l0 (s : ByteArray) (hs : s.size ≤ 140737488355328) : ∀ d i : Nat, i + d = s.size → 1 ≤ i →
    Ev (fun k => tocsinref04_Name.l0 k s (s.size : Int) (i : Int)) (((bytesOf s).drop i).all (nameByte false))
  | 0, i, h, hi => by
    refine Ev.step (fun k => by rw [tocsinref04_Name.l0]) ?_
    have h1 : ¬ ((i : Int) < (s.size : Int)) := by omega
    simp only [h1, if_false]
    rw [all_end _ _ _ (by omega)]; exact Ev.now _
  | d + 1, i, h, hi => by
    refine Ev.step (fun k => by rw [tocsinref04_Name.l0]) ?_
    have h1 : ((i : Int) < (s.size : Int)) := by omega
    have h0 : (0 : Int) ≤ i := by omega
    have h2 : ¬ (i : Int) = 0 := by omega
    simp only [h1, h0, h2, if_true, if_false, rletter_f, rdigit_f, Option.bind_some, wrap_succ i (by omega)]
    rw [all_step _ _ _ (by omega)]
    simp only [nameByte, Bool.false_and, Bool.or_false]
    have ih := rname_l0 s hs d (i + 1) (by omega) (by omega)
    cases h3 : lett (bt s (i : Int)) with
    | true => simpa using ih
    | false =>
      cases h4 : digt (bt s (i : Int)) with
      | true => simpa using ih
      | false => simp; exact Ev.now _
theorem rname_f (s : ByteArray) (hs : s.size ≤ 140737488355328) : Ev (fun k => tocsinref04_Name.f k s) (namedF s 64 false) := by
  have hlen : s.toList.length = s.size := by rw [ByteArray.toList_eq, data_length]
  unfold tocsinref04_Name.f namedF
  by_cases h0 : s.size = 0
  · have he : s.toList = [] := List.eq_nil_of_length_eq_zero (by omega)
    simp only [he, if_true]
    refine Ev.step (fun k => by rw [tocsinref04_Name.j0]) ?_
    simp only [h0, if_true]
    exact Ev.now _
  · have he : ¬ s.toList = [] := fun h => by rw [h] at hlen; simp at hlen; omega
    simp only [he, if_false]
    refine Ev.step (fun k => by rw [tocsinref04_Name.j0]) ?_
    by_cases h1 : s.size ≤ 64
    · have h2 : ¬ (s.size : Int) > 64 := by omega
      have h3 : (s.size : Int) ≤ 64 := by omega
      have h4 : 0 < s.size := by omega
      simp only [h2, h3, h4, decide_false, decide_true, Bool.false_eq_true, if_false, Bool.true_and]
      refine Ev.step (fun k => by rw [tocsinref04_Name.l0]) ?_
      have h5 : (0 : Int) < (s.size : Int) := by omega
      have e0 := all_step s (nameByte false) 0 h4
      rw [List.drop_zero] at e0
      rw [e0]
      have h6 : (0 : Int) ≤ 0 := by omega
      simp only [h5, h6, if_true, rletter_f, Option.bind_some, nameByte, Bool.false_and, Bool.or_false]
      change Ev _ (!digt (bt s 0) && ((lett (bt s 0) || digt (bt s 0)) && _))
      cases h7 : lett (bt s 0) with
      | true =>
        rw [lett_digt _ h7]
        have ih := rname_l0 s hs (s.size - 1) 1 (by omega) (by omega)
        have e1 := wrap_succ 0 (by omega)
        simp only [Int.natCast_zero] at e1
        simp only [if_true, Bool.true_or, Bool.not_false, Bool.true_and]
        rw [show wrap64 (0 + 1) = ((1 : Nat) : Int) from e1]
        exact ih
      | false =>
        cases h8 : digt (bt s 0) <;> simp <;> exact Ev.now _
    · have h2 : (s.size : Int) > 64 := by omega
      have h3 : ¬ (s.size : Int) ≤ 64 := by omega
      simp only [h2, h3, decide_true, decide_false, if_true, Bool.and_false, Bool.false_and]
      exact Ev.now _
theorem name_f (s : ByteArray) (hs : s.size ≤ 140737488355328) : labels_Name.f s = some (namedF s 64 false) := by
  unfold labels_Name.f labels_named.f
  rw [if_pos (by omega)]; rfl

/-- What is wrong of a value. -/
def valueE (s : ByteArray) : Int := if s.size = 0 then 41 else if 256 < s.size then 4 else if Lib.validD s.data.toList then 0 else 12
theorem value_f (s : ByteArray) (hs : s.size ≤ 140737488355328) : labels_value.f s = some (valueE s) := by
  have hlen : s.toList.length = s.size := by rw [ByteArray.toList_eq, data_length]
  unfold labels_value.f valueE utf8_ValidString.f
  by_cases h0 : s.size = 0
  · have he : s.toList = [] := List.eq_nil_of_length_eq_zero (by omega)
    rw [if_pos he, if_pos h0]
  · have he : ¬ s.toList = [] := fun h => by rw [h] at hlen; simp at hlen; omega
    rw [if_neg he, if_neg h0]
    by_cases h1 : 256 < s.size
    · rw [if_pos (by omega), if_pos h1]
    · rw [if_neg (by omega), if_neg h1, if_pos (by omega)]
      simp only [Option.bind_some]
      split <;> rfl
/-- What is wrong of a label, the one ahead aside. -/
def oneE (x : S89) : Int := if namedF x.f0 64 false then valueE x.f1 else 40
theorem one_f (x : S89) (h0 : x.f0.size ≤ 140737488355328) (h1 : x.f1.size ≤ 140737488355328) : Ev (fun k => tocsinref04_one.f k x.f0 x.f1) (oneE x) := by
  have hlen : x.f1.toList.length = x.f1.size := by rw [ByteArray.toList_eq, data_length]
  unfold tocsinref04_one.f oneE
  refine Ev.bind (rname_f x.f0 h0) ?_
  cases namedF x.f0 64 false with
  | false => simp; exact Ev.now _
  | true =>
    simp only [if_true]
    unfold valueE
    by_cases hz : x.f1.size = 0
    · have he : x.f1.toList = [] := List.eq_nil_of_length_eq_zero (by omega)
      simp only [he, hz, if_true]; exact Ev.now _
    · have he : ¬ x.f1.toList = [] := fun h => by rw [h] at hlen; simp at hlen; omega
      simp only [he, hz, if_false]
      by_cases h2 : 256 < x.f1.size
      · have h3 : (x.f1.size : Int) > 256 := by omega
        simp only [h2, h3, if_true]; exact Ev.now _
      · have h3 : ¬ (x.f1.size : Int) > 256 := by omega
        simp only [h2, h3, if_false]
        refine Ev.bind (utf8_f x.f1 h1) ?_
        cases Lib.validD x.f1.data.toList <;> simp <;> exact Ev.now _

/-- Texts of a size that is there. -/
def WfL (l : List S89) : Prop := ∀ x ∈ l, x.f0.size ≤ 140737488355328 ∧ x.f1.size ≤ 140737488355328
/-- From place i on: what is wrong of a label set, and of which label. -/
def rightG : Option S89 → Nat → List S89 → Int × Int
  | _, _, [] => (0, 0)
  | p, i, x :: l => if oneE x = 0 then (match p with | some y => if cmpB y.f0 x.f0 < 0 then rightG (some x) (i + 1) l else (3, (i : Int)) | none => rightG (some x) (i + 1) l) else (oneE x, (i : Int))
def rightF (l : List S89) : Int × Int := if 16 < l.length then (8, 0) else rightG none 0 l
def prevOf (l : List S89) (i : Nat) : Option S89 := if i = 0 then none else l[i - 1]?
theorem prev_succ (l : List S89) (i : Nat) (h : i < l.length) : prevOf l (i + 1) = some l[i] := by simp [prevOf, h]
theorem right_l0 (l : List S89) (hw : WfL l) (hl : l.length ≤ 16) : ∀ d i : Nat, i + d = l.length →
    Ev (fun k => labels_Right.l0 k l l (l.length : Int) (i : Int)) (rightG (prevOf l i) i (l.drop i))
  | 0, i, h => by
    refine Ev.step (fun k => by rw [labels_Right.l0]) ?_
    have h1 : ¬ ((i : Int) < (l.length : Int)) := by omega
    rw [List.drop_eq_nil_of_le (by omega)]
    simp only [h1, if_false, rightG]
    exact Ev.now _
  | d + 1, i, h => by
    have hlt : i < l.length := by omega
    have h1 : ((i : Int) < (l.length : Int)) := by omega
    have h0 : (0 : Int) ≤ i := by omega
    have ih := right_l0 l hw hl d (i + 1) (by omega)
    have hx := hw l[i] (List.getElem_mem hlt)
    refine Ev.step (fun k => by rw [labels_Right.l0]) ?_
    rw [List.drop_eq_getElem_cons hlt, rd_at _ _ hlt]
    simp only [h1, h0, if_true, name_f _ hx.1, value_f _ hx.2, Option.bind_some, rightG]
    rw [prev_succ l i hlt] at ih
    unfold oneE
    cases hn : namedF l[i].f0 64 false with
    | false => simp; exact Ev.now _
    | true =>
      simp only [if_true]
      by_cases hv : valueE l[i].f1 = 0
      · simp only [hv, if_true]
        by_cases hz : i = 0
        · subst hz
          have h2 : ¬ ((0 : Nat) : Int) > 0 := by omega
          simp only [h2, if_false, wrap_succ 0 (by omega)]
          exact ih
        · have h2 : (i : Int) > 0 := by omega
          have e1 : wrap64 ((i : Int) - 1) = ((i - 1 : Nat) : Int) := by rw [wrap_in _ (by omega) (by omega)]; omega
          have h3 : (0 : Int) ≤ ((i - 1 : Nat) : Int) := by omega
          have h4 : ((i - 1 : Nat) : Int) < (l.length : Int) := by omega
          rw [e1, rd_at l (i - 1) (by omega)]
          simp only [h2, h3, h4, if_true, less_cmp, decide_eq_true_eq, wrap_succ i (by omega)]
          have hp : prevOf l i = some l[i - 1] := by unfold prevOf; rw [if_neg hz, List.getElem?_eq_getElem (by omega)]
          rw [hp]
          by_cases hc : cmpB l[i - 1].f0 l[i].f0 < 0
          · simp only [hc, if_true]; exact ih
          · simp only [hc, if_false]; exact Ev.now _
      · simp only [hv, if_false]; exact Ev.now _
theorem right_f (l : List S89) (hw : WfL l) : Ev (fun k => labels_Right.f k l) (rightF l) := by
  unfold labels_Right.f rightF
  by_cases h : 16 < l.length
  · have h1 : (l.length : Int) > 16 := by omega
    simp only [h, h1, if_true]; exact Ev.now _
  · have h1 : ¬ (l.length : Int) > 16 := by omega
    simp only [h, h1, if_false]
    exact right_l0 l hw (by omega) l.length 0 (by omega)
theorem rright_l0 (l : List S89) (hw : WfL l) (hl : l.length ≤ 16) : ∀ d i : Nat, i + d = l.length →
    Ev (fun k => tocsinref04_Right.l0 k l l (l.length : Int) (i : Int)) (rightG (prevOf l i) i (l.drop i))
  | 0, i, h => by
    refine Ev.step (fun k => by rw [tocsinref04_Right.l0]) ?_
    have h1 : ¬ ((i : Int) < (l.length : Int)) := by omega
    rw [List.drop_eq_nil_of_le (by omega)]
    simp only [h1, if_false, rightG]
    exact Ev.now _
  | d + 1, i, h => by
    have hlt : i < l.length := by omega
    have h1 : ((i : Int) < (l.length : Int)) := by omega
    have h0 : (0 : Int) ≤ i := by omega
    have ih := rright_l0 l hw hl d (i + 1) (by omega)
    have hx := hw l[i] (List.getElem_mem hlt)
    refine Ev.step (fun k => by rw [tocsinref04_Right.l0]) ?_
    rw [List.drop_eq_getElem_cons hlt, rd_at _ _ hlt]
    simp only [h1, h0, if_true, rightG]
    rw [prev_succ l i hlt] at ih
    refine Ev.bind (one_f _ hx.1 hx.2) ?_
    by_cases hv : oneE l[i] = 0
    · simp only [hv, if_true]
      by_cases hz : i = 0
      · subst hz
        have h2 : ¬ ((0 : Nat) : Int) > 0 := by omega
        simp only [h2, if_false, wrap_succ 0 (by omega)]
        exact ih
      · have h2 : (i : Int) > 0 := by omega
        have e1 : wrap64 ((i : Int) - 1) = ((i - 1 : Nat) : Int) := by rw [wrap_in _ (by omega) (by omega)]; omega
        have h3 : (0 : Int) ≤ ((i - 1 : Nat) : Int) := by omega
        have h4 : ((i - 1 : Nat) : Int) < (l.length : Int) := by omega
        rw [e1, rd_at l (i - 1) (by omega)]
        simp only [h2, h3, h4, if_true, less_cmp, decide_eq_true_eq, wrap_succ i (by omega)]
        have hp : prevOf l i = some l[i - 1] := by unfold prevOf; rw [if_neg hz, List.getElem?_eq_getElem (by omega)]
        rw [hp]
        by_cases hc : cmpB l[i - 1].f0 l[i].f0 < 0
        · simp only [hc, if_true]; exact ih
        · simp only [hc, if_false]; exact Ev.now _
    · simp only [hv, if_false]; exact Ev.now _
theorem rright_f (l : List S89) (hw : WfL l) : Ev (fun k => tocsinref04_Right.f k l) (rightF l) := by
  unfold tocsinref04_Right.f rightF
  by_cases h : 16 < l.length
  · have h1 : (l.length : Int) > 16 := by omega
    simp only [h, h1, if_true]; exact Ev.now _
  · have h1 : ¬ (l.length : Int) > 16 := by omega
    simp only [h, h1, if_false]
    exact rright_l0 l hw (by omega) l.length 0 (by omega)
end Go.Proofs.YtoncpeadbhgmaaaGreatDoor.G

set_option linter.unusedVariables false
set_option linter.unusedSimpArgs false
namespace Go.Proofs.YtoncpeadbhgmaaaGreatDoor.G
open Go.RowKit Go.Sort Go.Proofs.YtoncpeadbhgmaaaGreatDoorW.PrintWords

def WfN (l : List ByteArray) : Prop := ∀ x ∈ l, x.size ≤ 140737488355328
def namedAll (l : List ByteArray) : Bool := l.all fun s => namedF s 64 false
theorem wrong_ev (l : List ByteArray) (hw : WfN l) (hl : l.length ≤ 140737488355328) : ∀ d i : Nat, i + d = l.length →
    Ev (fun k => aggr_wrong.l0 k l (l.length : Int) (i : Int)) (if namedAll (l.drop i) then 0 else 40)
  | 0, i, h => by
    refine Ev.step (fun k => by rw [aggr_wrong.l0]) ?_
    have h1 : ¬ ((i : Int) < (l.length : Int)) := by omega
    rw [List.drop_eq_nil_of_le (by omega)]
    simp only [h1, if_false]
    exact Ev.now _
  | d + 1, i, h => by
    have hlt : i < l.length := by omega
    have h1 : (i : Int) < (l.length : Int) := by omega
    have h0 : (0 : Int) ≤ i := by omega
    refine Ev.step (fun k => by rw [aggr_wrong.l0]) ?_
    rw [List.drop_eq_getElem_cons hlt, rdOf_at _ _ _ hlt, name_f _ (hw _ (List.getElem_mem hlt))]
    have ha : namedAll (l[i] :: l.drop (i + 1)) = (namedF l[i] 64 false && namedAll (l.drop (i + 1))) := rfl
    rw [ha]
    cases hn : namedF l[i] 64 false with
    | false =>
      simp only [h1, h0, if_true, Option.bind_some, Bool.false_and, if_false, Bool.false_eq_true]
      exact Ev.now _
    | true =>
      simp only [h1, h0, if_true, Option.bind_some, Bool.true_and, wrap_succ i (by omega)]
      exact wrong_ev l hw hl d (i + 1) (by omega)
theorem wrong_f (l : List ByteArray) (hw : WfN l) (hl : l.length ≤ 140737488355328) : Ev (fun k => aggr_wrong.f k l) (if namedAll l then 0 else 40) := wrong_ev l hw hl l.length 0 (by omega)
theorem named_ev (l : List ByteArray) (hw : WfN l) (hl : l.length ≤ 140737488355328) : ∀ d i : Nat, i + d = l.length →
    Ev (fun k => tocsinref16_Named.l0 k l (l.length : Int) (i : Int)) (namedAll (l.drop i))
  | 0, i, h => by
    refine Ev.step (fun k => by rw [tocsinref16_Named.l0]) ?_
    have h1 : ¬ ((i : Int) < (l.length : Int)) := by omega
    rw [List.drop_eq_nil_of_le (by omega)]
    simp only [h1, if_false]
    exact Ev.now _
  | d + 1, i, h => by
    have hlt : i < l.length := by omega
    have h1 : (i : Int) < (l.length : Int) := by omega
    have h0 : (0 : Int) ≤ i := by omega
    refine Ev.step (fun k => by rw [tocsinref16_Named.l0]) ?_
    rw [List.drop_eq_getElem_cons hlt, rdOf_at _ _ _ hlt]
    have ha : namedAll (l[i] :: l.drop (i + 1)) = (namedF l[i] 64 false && namedAll (l.drop (i + 1))) := rfl
    rw [ha]
    simp only [h1, h0, if_true]
    refine Ev.bind (rname_f l[i] (hw _ (List.getElem_mem hlt))) ?_
    cases hn : namedF l[i] 64 false with
    | false =>
      simp only [Bool.false_and, if_false, Bool.false_eq_true]
      exact Ev.now _
    | true =>
      simp only [if_true, Bool.true_and, wrap_succ i (by omega)]
      exact named_ev l hw hl d (i + 1) (by omega)
theorem named_f (l : List ByteArray) (hw : WfN l) (hl : l.length ≤ 140737488355328) : Ev (fun k => tocsinref16_Named.f k l) (namedAll l) := named_ev l hw hl l.length 0 (by omega)

/-- The group of a right label set. -/
def groupF (l : List S89) (names : List ByteArray) (wo : Bool) : List S89 := if wo then pickF l (names ++ [⟨#[95, 95, 110, 97, 109, 101, 95, 95]⟩]) false else pickF l names true
theorem right_short (l : List S89) (h : (rightF l).1 = 0) : l.length ≤ 16 := by
  unfold rightF at h
  split at h
  · simp at h
  · omega
theorem group_f (l : List S89) (names : List ByteArray) (wo : Bool) (hw : WfL l) (hn : names.length < 8796093022208) (hr : (rightF l).1 = 0) : Ev (fun k => aggr_group.f k l names wo) (groupF l names wo) := by
  have hl := right_short l hr
  unfold aggr_group.f groupF
  cases wo with
  | true =>
    simp only [if_true]
    have hc : slices_Clone_string_string.f names = some names := by unfold slices_Clone_string_string.f; rw [if_pos hn]
    simp only [hc, Option.bind_some, hn, if_true]
    unfold labels_Without.f labels_right.f
    refine Ev.bind (a := (pickF l (names ++ [⟨#[95, 95, 110, 97, 109, 101, 95, 95]⟩]) false, (0 : Int))) (Ev.bind (a := (rightF l).1) (Ev.bind (right_f l hw) (Ev.now _)) ?_) (Ev.now _)
    simp only [hr, if_true]
    exact Ev.bind (pick_f l _ false (by simp; omega) (by omega)) (Ev.now _)
  | false =>
    simp only [Bool.false_eq_true, if_false]
    unfold labels_Keep.f labels_right.f
    refine Ev.bind (a := (pickF l names true, (0 : Int))) (Ev.bind (a := (rightF l).1) (Ev.bind (right_f l hw) (Ev.now _)) ?_) (Ev.now _)
    simp only [hr, if_true]
    exact Ev.bind (pick_f l _ true (by omega) (by omega)) (Ev.now _)
theorem rgroup_f (l : List S89) (names : List ByteArray) (wo : Bool) (hn : names.length < 8796093022208) (hl : l.length ≤ 4398046511104) : Ev (fun k => tocsinref16_group.f k l names wo) (groupF l names wo) := by
  unfold tocsinref16_group.f groupF
  cases wo with
  | true =>
    have h1 : ([] : List ByteArray).length + names.length < 8796093022208 := by simpa using hn
    simp only [if_true, h1, Option.bind_some, List.nil_append, hn]
    exact Ev.bind (rpick_f l _ false (by simp; omega) hl) (Ev.now _)
  | false =>
    simp only [Bool.false_eq_true, if_false]
    exact Ev.bind (rpick_f l _ true (by omega) hl) (Ev.now _)
/-- What the group of a label set is, or what is wrong. -/
def GroupE (l : List S89) (names : List ByteArray) (wo : Bool) : List S89 × Int := if (rightF l).1 = 0 then (if namedAll names then (groupF l names wo, 0) else ([], 40)) else ([], (rightF l).1)
theorem Group_f (l : List S89) (names : List ByteArray) (wo : Bool) (hw : WfL l) (hwn : WfN names) (hn : names.length < 8796093022208) : Ev (fun k => aggr_Group.f k l names wo) (GroupE l names wo) := by
  unfold aggr_Group.f GroupE
  refine Ev.bind (right_f l hw) ?_
  by_cases hr : (rightF l).1 = 0
  · simp only [hr, if_true]
    refine Ev.bind (wrong_f names hwn (by omega)) ?_
    cases namedAll names with
    | true =>
      simp only [if_true]
      exact Ev.bind (group_f l names wo hw hn hr) (Ev.now _)
    | false =>
      simp only [Bool.false_eq_true, if_false, show ¬ ((40 : Int) = 0) by decide]
      exact Ev.now _
  · simp only [hr, if_false]
    exact Ev.now _
end Go.Proofs.YtoncpeadbhgmaaaGreatDoor.G

set_option linter.unusedVariables false
set_option linter.unusedSimpArgs false
namespace Go.Proofs.YtoncpeadbhgmaaaGreatDoor.G
open Go.RowKit Go.Sort Go.Proofs.YtoncpeadbhgmaaaGreatDoorW.PrintWords

section
variable {κ α : Type} {c : κ → κ → Int} {g : α → κ}
theorem gparts_snoc (l : List α) (p : α) : gparts c g (l ++ [p]) = gins c (gparts c g l) (g p) p := by simp [gparts]
theorem gins_lead : ∀ (gs : List (κ × List α)) (k : κ) (p : α), ∃ K, K ≤ gs.length ∧ (∀ (i : Nat) (o : κ × List α), i < K → gs[i]? = some o → c o.1 k < 0) ∧
    ((∃ o, gs[K]? = some o ∧ c o.1 k = 0 ∧ gins c gs k p = gs.set K (o.1, o.2 ++ [p])) ∨
     ((∀ o, gs[K]? = some o → 0 < c o.1 k) ∧ gins c gs k p = gs.take K ++ [(k, [p])] ++ gs.drop K))
  | [], k, p => ⟨0, Nat.le_refl _, fun i o hi => by omega, .inr ⟨fun o ho => by simp at ho, by simp [gins]⟩⟩
  | x :: r, k, p => by
    by_cases h1 : c x.1 k < 0
    · obtain ⟨K, hK, hlo, hend⟩ := gins_lead r k p
      refine ⟨K + 1, by simpa using hK, fun i o hi ho => ?_, ?_⟩
      · cases i with
        | zero => simp at ho; subst ho; exact h1
        | succ i => exact hlo i o (by omega) (by simpa using ho)
      · rcases hend with ⟨o, ho, h0, he⟩ | ⟨hp, he⟩
        · exact .inl ⟨o, by simpa using ho, h0, by simp [gins, h1, he]⟩
        · exact .inr ⟨fun o ho => hp o (by simpa using ho), by simp [gins, h1, he]⟩
    · by_cases h0 : c x.1 k = 0
      · exact ⟨0, Nat.zero_le _, fun i o hi => by omega, .inl ⟨x, rfl, h0, by simp [gins, h1, h0]⟩⟩
      · exact ⟨0, Nat.zero_le _, fun i o hi => by omega, .inr ⟨fun o ho => by simp at ho; subst ho; omega, by simp [gins, h1, h0]⟩⟩
theorem gins_len : ∀ (gs : List (κ × List α)) (k : κ) (p : α) (n : Nat), gs.length ≤ n → (∀ o ∈ gs, o.2.length ≤ n) → (gins c gs k p).length ≤ n + 1 ∧ ∀ o ∈ gins c gs k p, o.2.length ≤ n + 1
  | [], k, p, n, h1, h2 => by simp [gins]
  | x :: r, k, p, n, h1, h2 => by
    simp only [List.length_cons] at h1
    simp only [gins]
    split
    · cases n with
      | zero => omega
      | succ n =>
        have hr : (gins c r k p).length ≤ n + 1 := by
          have : ∀ (gs : List (κ × List α)), (gins c gs k p).length ≤ gs.length + 1 := by
            intro gs
            induction gs with
            | nil => simp [gins]
            | cons y gs ih =>
              simp only [gins]
              split
              · simpa using ih
              · split <;> simp
          have := this r
          omega
        refine ⟨by simp; omega, fun o ho => ?_⟩
        have hall : ∀ (gs : List (κ × List α)), (∀ o ∈ gs, o.2.length ≤ n + 1) → ∀ o ∈ gins c gs k p, o.2.length ≤ n + 1 + 1 := by
          intro gs
          induction gs with
          | nil => intro _ o ho; simp [gins] at ho; subst ho; simp
          | cons y gs ih =>
            intro h o ho
            have hy := h y (by simp)
            have ht := ih (fun o ho => h o (List.mem_cons_of_mem _ ho))
            simp only [gins] at ho
            split at ho
            · rcases List.mem_cons.1 ho with e | e
              · subst e; omega
              · exact ht o e
            · split at ho
              · rcases List.mem_cons.1 ho with e | e
                · subst e; simp; omega
                · have := h o (List.mem_cons_of_mem _ e); omega
              · rcases List.mem_cons.1 ho with e | e
                · subst e; simp
                · have := h o e; omega
        rcases List.mem_cons.1 ho with e | e
        · subst e; have := h2 o (by simp); omega
        · exact hall r (fun o ho => h2 o (List.mem_cons_of_mem _ ho)) o e
    · split
      · refine ⟨by simp; omega, fun o ho => ?_⟩
        rcases List.mem_cons.1 ho with e | e
        · subst e; have := h2 x (by simp); simp; omega
        · have := h2 o (List.mem_cons_of_mem _ e); omega
      · refine ⟨by simp; omega, fun o ho => ?_⟩
        rcases List.mem_cons.1 ho with e | e
        · subst e; simp
        · have := h2 o e; omega
end
theorem psteps (l0 : List S41) (g : S41 → List S89) : PSteps l0 cmpLs g (fun j => gparts cmpLs g (l0.take j)) where
  zero := by simp [gparts]
  mem := fun j hj o ho => by
    have hG := gparts_groups cmpLs_lin (g := g) (l0.take j)
    obtain ⟨a, ha, e⟩ := (isGroups_key cmpLs_lin hG o.1).1 (List.mem_map.2 ⟨o, ho, rfl⟩)
    exact ⟨a, List.mem_of_mem_take ha, e.symm⟩
  len := fun j hj => by
    induction j with
    | zero => simp [gparts]
    | succ j ih =>
      have ih := ih (by omega)
      have ht : l0.take (j + 1) = l0.take j ++ [l0[j]'(by omega)] := by rw [List.take_add_one, List.getElem?_eq_getElem (by omega)]; rfl
      show (gparts cmpLs g (l0.take (j + 1))).length ≤ _ ∧ ∀ o ∈ gparts cmpLs g (l0.take (j + 1)), _
      rw [ht, gparts_snoc]
      exact gins_len _ _ _ j ih.1 ih.2
  lead := fun j h => by
    have ht : l0.take (j + 1) = l0.take j ++ [l0[j]] := by rw [List.take_add_one, List.getElem?_eq_getElem h]; rfl
    obtain ⟨K, hK, hlo, hend⟩ := gins_lead (c := cmpLs) (gparts cmpLs g (l0.take j)) (g l0[j]) l0[j]
    refine ⟨K, hK, hlo, ?_⟩
    show (∃ o, _ ∧ _ ∧ gparts cmpLs g (l0.take (j + 1)) = _) ∨ (_ ∧ gparts cmpLs g (l0.take (j + 1)) = _)
    rw [ht, gparts_snoc]
    exact hend
/-- Enough rounds for all of a list. -/
theorem ev_all {α β : Type} {f : Nat → α → Option β} {r : α → β} (l : List α) (h : ∀ a ∈ l, Ev (fun k => f k a) (r a)) : ∃ K, ∀ k, K ≤ k → ∀ a ∈ l, f k a = some (r a) := by
  induction l with
  | nil => exact ⟨0, fun k _ a ha => by cases ha⟩
  | cons x l ih =>
    obtain ⟨K1, h1⟩ := h x (by simp)
    obtain ⟨K2, h2⟩ := ih (fun a ha => h a (List.mem_cons_of_mem _ ha))
    refine ⟨max K1 K2, fun k hk a ha => ?_⟩
    rcases List.mem_cons.1 ha with e | e
    · subst e; exact h1 k (by omega)
    · exact h2 k (by omega) a e
theorem pask (l0 : List S41) (names : List ByteArray) (wo : Bool) (hn : names.length < 8796093022208) (hl : l0.length ≤ 1048576) (hr : ∀ p ∈ l0, p.f0.length ≤ 1048576) :
    ∃ K, ∀ k, K ≤ k → PAsk k l0 names wo cmpLs (fun p => groupF p.f0 names wo) := by
  have hgl : ∀ p ∈ l0, (groupF p.f0 names wo).length ≤ 1048576 := fun p hp => by
    have := hr p hp
    unfold groupF pickF
    split <;> exact Nat.le_trans (List.length_filter_le _ _) this
  obtain ⟨K1, h1⟩ := ev_all (f := fun k (p : S41) => tocsinref16_group.f k p.f0 names wo) (r := fun p => groupF p.f0 names wo) l0 (fun p hp => rgroup_f p.f0 names wo hn (by have := hr p hp; omega))
  obtain ⟨K2, h2⟩ := ev_all (f := fun k (x : S41 × S41) => tocsinref04_Compare.f k (groupF x.1.f0 names wo) (groupF x.2.f0 names wo)) (r := fun x => cmpLs (groupF x.1.f0 names wo) (groupF x.2.f0 names wo)) (l0.flatMap fun p => l0.map fun q => (p, q)) (fun x hx => by
    obtain ⟨p, hp, hx⟩ := List.mem_flatMap.1 hx
    obtain ⟨q, hq, rfl⟩ := List.mem_map.1 hx
    exact compare_f _ _ (by have := hgl p hp; simp only; omega) (by have := hgl q hq; simp only; omega))
  obtain ⟨K3, h3⟩ := ev_all (f := fun k (x : S41 × S41) => tocsinref04_Same.f k (groupF x.1.f0 names wo) (groupF x.2.f0 names wo)) (r := fun x => cmpLs (groupF x.1.f0 names wo) (groupF x.2.f0 names wo) == 0) (l0.flatMap fun p => l0.map fun q => (p, q)) (fun x hx => by
    obtain ⟨p, hp, hx⟩ := List.mem_flatMap.1 hx
    obtain ⟨q, hq, rfl⟩ := List.mem_map.1 hx
    exact same_f _ _ (by have := hgl p hp; simp only; omega) (by have := hgl q hq; simp only; omega))
  have hin : ∀ p ∈ l0, ∀ q ∈ l0, (p, q) ∈ l0.flatMap fun p => l0.map fun q => (p, q) := fun p hp q hq => List.mem_flatMap.2 ⟨p, hp, List.mem_map.2 ⟨q, hq, rfl⟩⟩
  refine ⟨max K1 (max K2 K3), fun k hk => ⟨fun p hp => h1 k (by omega) p hp, fun p hp q hq => h2 k (by omega) (p, q) (hin p hp q hq), fun p hp q hq => h3 k (by omega) (p, q) (hin p hp q hq), hl⟩⟩
end Go.Proofs.YtoncpeadbhgmaaaGreatDoor.G

set_option linter.unusedVariables false
set_option linter.unusedSimpArgs false
namespace Go.Proofs.YtoncpeadbhgmaaaGreatDoor.G
open Go.RowKit Go.Sort Go.Proofs.YtoncpeadbhgmaaaGreatDoorW.PrintWords

structure Rt (l : List S89) : Prop where
  few : l.length ≤ 16
  one : ∀ x ∈ l, oneE x = 0
  up : l.Pairwise fun a b => cmpB a.f0 b.f0 < 0
theorem rightG_iff : ∀ (l : List S89) (p : Option S89) (i : Nat), (rightG p i l).1 = 0 ↔ (∀ x ∈ l, oneE x = 0) ∧ l.Pairwise (fun a b => cmpB a.f0 b.f0 < 0) ∧ ∀ y, p = some y → ∀ x ∈ l, cmpB y.f0 x.f0 < 0
  | [], p, i => by simp [rightG]
  | x :: l, p, i => by
    have ih := rightG_iff l (some x) (i + 1)
    simp only [rightG]
    by_cases h1 : oneE x = 0
    · rw [if_pos h1]
      have key : (rightG (some x) (i + 1) l).1 = 0 ↔ (∀ x ∈ l, oneE x = 0) ∧ l.Pairwise (fun a b => cmpB a.f0 b.f0 < 0) ∧ ∀ z ∈ l, cmpB x.f0 z.f0 < 0 := by
        rw [ih]
        exact ⟨fun ⟨a, b, c⟩ => ⟨a, b, c x rfl⟩, fun ⟨a, b, c⟩ => ⟨a, b, fun y e z hz => by injection e with e; subst e; exact c z hz⟩⟩
      cases p with
      | none =>
        simp only [List.mem_cons, forall_eq_or_imp, List.pairwise_cons]
        rw [key]
        exact ⟨fun ⟨a, b, c⟩ => ⟨⟨h1, a⟩, ⟨c, b⟩, fun y e => by cases e⟩, fun ⟨a, b, c⟩ => ⟨a.2, b.2, b.1⟩⟩
      | some y =>
        by_cases h2 : cmpB y.f0 x.f0 < 0
        · simp only [h2, if_true, List.mem_cons, forall_eq_or_imp, List.pairwise_cons, Option.some.injEq, forall_eq']
          rw [key]
          exact ⟨fun ⟨a, b, c⟩ => ⟨⟨h1, a⟩, ⟨c, b⟩, trivial, fun z hz => cmpB_lin.trans _ _ _ h2 (c z hz)⟩, fun ⟨a, b, c⟩ => ⟨a.2, b.2, b.1⟩⟩
        · simp only [h2, if_false, List.mem_cons, forall_eq_or_imp, Option.some.injEq, forall_eq']
          exact ⟨fun h => by simp at h, fun ⟨a, b, c⟩ => c.1.elim⟩
    · rw [if_neg h1]
      simp only [List.mem_cons, forall_eq_or_imp]
      exact ⟨fun h => absurd h h1, fun ⟨a, _⟩ => absurd a.1 h1⟩
theorem right_iff (l : List S89) : (rightF l).1 = 0 ↔ Rt l := by
  unfold rightF
  by_cases h : 16 < l.length
  · rw [if_pos h]
    exact ⟨fun h => by simp at h, fun hr => by have := hr.few; omega⟩
  · rw [if_neg h, rightG_iff]
    exact ⟨fun ⟨a, b, _⟩ => ⟨by omega, a, b⟩, fun hr => ⟨hr.one, hr.up, fun y e => by cases e⟩⟩
theorem Rt.sub {l m : List S89} (h : Rt l) (hs : m.Sublist l) : Rt m :=
  ⟨Nat.le_trans hs.length_le h.few, fun x hx => h.one x (hs.subset hx), h.up.sublist hs⟩
theorem Rt.group {l : List S89} (h : Rt l) (names : List ByteArray) (wo : Bool) : Rt (groupF l names wo) := by
  unfold groupF pickF
  split <;> exact h.sub List.filter_sublist
theorem one_size {x : S89} (h : oneE x = 0) : x.f0.size ≤ 64 ∧ x.f1.size ≤ 256 := by
  unfold oneE at h
  split at h
  · rename_i hn
    unfold namedF at hn
    simp only [Bool.and_eq_true, decide_eq_true_eq] at hn
    unfold valueE at h
    refine ⟨by have := hn.1.1.2; omega, ?_⟩
    split at h
    · omega
    · split at h
      · omega
      · omega
  · omega

def Byt (l : List Int) : Prop := ∀ x ∈ l, 0 ≤ x ∧ x < 256
theorem or128 : ∀ X : Fin 256, Go.bits .or .u8 ((X.val : Nat) : Int) 128 = ((if X.val < 128 then X.val + 128 else X.val : Nat) : Int) := by decide +kernel
/-- A number below 2 to the 14th, as bytes. -/
def uv (n : Nat) : List Int := if n < 128 then [(n : Int)] else [((n % 128 + 128 : Nat) : Int), ((n / 128 : Nat) : Int)]
theorem uv_len (n : Nat) : (uv n).length ≤ 2 := by unfold uv; split <;> simp
theorem uv_byt (n : Nat) (h : n < 16384) : Byt (uv n) := by
  unfold uv Byt
  split <;> intro x hx <;> simp at hx <;> omega
theorem uv_pre {a b : Nat} {x y : List Int} (h : uv a ++ x = uv b ++ y) : a = b ∧ x = y := by
  unfold uv at h
  split at h <;> split at h <;> simp at h
  · exact ⟨by omega, h.2⟩
  · omega
  · omega
  · exact ⟨by omega, h.2.2⟩
theorem putU_f (l : List Int) (n : Nat) (hn : n < 16384) (hl : l.length ≤ 1073741824) (k : Nat) (hk : 2 ≤ k) : vint_PutU.f k l (n : Int) = some (l ++ uv n) := by
  obtain ⟨k, rfl⟩ : ∃ m, k = m + 2 := ⟨k - 2, by omega⟩
  unfold vint_PutU.f uv
  rw [vint_PutU.l0]
  by_cases h : n < 128
  · have h1 : ¬ (n : Int) ≥ 128 := by omega
    rw [if_neg h1, if_pos h]
    have e : (n : Int) % 256 = n := by omega
    simp only [List.length_nil, e, List.nil_append]
    rw [if_pos (by omega)]
    unfold vint_joined.f
    rw [if_pos (by simp; omega)]
    rfl
  · have h1 : (n : Int) ≥ 128 := by omega
    rw [if_pos h1, if_neg h]
    simp only [List.length_nil, List.nil_append]
    rw [if_pos (by omega), vint_PutU.l0]
    have h2 : ¬ (n : Int) / 128 ≥ 128 := by omega
    rw [if_neg h2]
    have hb : Go.bits .or .u8 ((n : Int) % 256) 128 = ((n % 128 + 128 : Nat) : Int) := by
      have := or128 ⟨n % 256, by omega⟩
      simp only at this
      rw [show ((n : Int) % 256) = ((n % 256 : Nat) : Int) by omega, this]
      split <;> omega
    have e : ((n : Int) / 128) % 256 = ((n / 128 : Nat) : Int) := by omega
    rw [hb, e]
    simp only [List.length_cons, List.length_nil]
    rw [if_pos (by omega)]
    unfold vint_joined.f
    rw [if_pos (by simp; omega)]
    simp
/-- A text, as bytes. -/
def ut (s : ByteArray) : List Int := uv s.size ++ bytesOf s
theorem ut_len (s : ByteArray) : (ut s).length ≤ s.size + 2 := by
  unfold ut
  have := uv_len s.size
  rw [List.length_append, bytesOf_length]; omega
theorem bytes_byt (s : ByteArray) : Byt (bytesOf s) := fun x hx => by
  obtain ⟨b, _, rfl⟩ := List.mem_map.1 hx
  have := b.toNat_lt
  omega
theorem ut_pre {a b : ByteArray} {x y : List Int} (h : ut a ++ x = ut b ++ y) : a = b ∧ x = y := by
  unfold ut at h
  rw [List.append_assoc, List.append_assoc] at h
  obtain ⟨hs, h2⟩ := uv_pre h
  have hl : (bytesOf a).length = (bytesOf b).length := by rw [bytesOf_length, bytesOf_length, hs]
  obtain ⟨h3, h4⟩ := List.append_inj h2 hl
  refine ⟨?_, h4⟩
  have : a.data.toList = b.data.toList := by
    have inj : ∀ (l m : List UInt8), l.map (fun c => (c.toNat : Int)) = m.map (fun c => (c.toNat : Int)) → l = m := by
      intro l
      induction l with
      | nil => intro m h; cases m with
        | nil => rfl
        | cons => simp at h
      | cons c l ih =>
        intro m h
        cases m with
        | nil => simp at h
        | cons d m =>
          simp only [List.map_cons, List.cons.injEq] at h
          rw [ih m h.2, UInt8.toNat_inj.1 (by omega : c.toNat = d.toNat)]
    exact inj _ _ h3
  have h5 : a.data = b.data := Array.toList_inj.1 this
  cases a; cases b; simp_all
theorem putText_f (l : List Int) (s : ByteArray) (hs : s.size < 16384) (hl : l.length ≤ 1000000000) (k : Nat) (hk : 2 ≤ k) : vint_PutText.f k l s = some (l ++ ut s) := by
  unfold vint_PutText.f ut
  rw [if_pos (by omega), putU_f l s.size hs (by omega) k hk]
  simp only [Option.bind_some]
  unfold vint_joined.f
  have := uv_len s.size
  rw [if_pos (by rw [List.length_append, bytesOf_length]; omega), List.append_assoc]
def ul (l : List S89) : List Int := l.flatMap fun x => ut x.f0 ++ ut x.f1
theorem ul_pre : ∀ {l m : List S89} {x y : List Int}, l.length = m.length → ul l ++ x = ul m ++ y → l = m ∧ x = y
  | [], [], x, y, _, h => ⟨rfl, by simpa [ul] using h⟩
  | [], _ :: _, x, y, hl, h => by simp at hl
  | _ :: _, [], x, y, hl, h => by simp at hl
  | p :: l, q :: m, x, y, hl, h => by
    simp only [ul, List.flatMap_cons, List.append_assoc] at h
    obtain ⟨h0, h⟩ := ut_pre h
    obtain ⟨h1, h⟩ := ut_pre h
    obtain ⟨h2, h⟩ := ul_pre (l := l) (m := m) (by simpa using hl) h
    refine ⟨?_, h⟩
    cases p; cases q; simp_all
/-- A label set's bytes. -/
def uls (l : List S89) : List Int := uv l.length ++ ul l
theorem uls_inj {l m : List S89} (h : uls l = uls m) : l = m := by
  unfold uls at h
  obtain ⟨h1, h2⟩ := uv_pre h
  exact (ul_pre (x := []) (y := []) h1 (by simpa using h2)).1
theorem put_l0 (l : List S89) (h : ∀ x ∈ l, x.f0.size ≤ 64 ∧ x.f1.size ≤ 256) (hl : l.length ≤ 16) : ∀ (d i : Nat) (acc : List Int), i + d = l.length → acc.length ≤ 324 * i + 2 →
    Ev (fun k => labels_Put.l0 k acc l (l.length : Int) (i : Int)) (acc ++ ul (l.drop i), 0)
  | 0, i, acc, hi, ha => by
    refine Ev.step (fun k => by rw [labels_Put.l0]) ?_
    have h1 : ¬ ((i : Int) < (l.length : Int)) := by omega
    rw [List.drop_eq_nil_of_le (by omega)]
    simp only [h1, if_false, ul, List.flatMap_nil, List.append_nil]
    exact Ev.now _
  | d + 1, i, acc, hi, ha => by
    have hlt : i < l.length := by omega
    have h1 : (i : Int) < (l.length : Int) := by omega
    have h0 : (0 : Int) ≤ i := by omega
    have hx := h l[i] (List.getElem_mem hlt)
    refine Ev.step (fun k => by rw [labels_Put.l0]) ?_
    rw [rd_at l i hlt]
    simp only [h1, h0, if_true]
    have l1 := ut_len l[i].f0
    have l2 := ut_len l[i].f1
    refine Ev.bind (a := acc ++ ut l[i].f0) ⟨2, fun k hk => putText_f acc _ (by omega) (by omega) k hk⟩ ?_
    refine Ev.bind (a := acc ++ ut l[i].f0 ++ ut l[i].f1) ⟨2, fun k hk => putText_f _ _ (by omega) (by rw [List.length_append]; omega) k hk⟩ ?_
    rw [wrap_succ i (by omega)]
    have ih := put_l0 l h hl d (i + 1) (acc ++ ut l[i].f0 ++ ut l[i].f1) (by omega) (by rw [List.length_append, List.length_append]; omega)
    have e : acc ++ ul (l.drop i) = acc ++ ut l[i].f0 ++ ut l[i].f1 ++ ul (l.drop (i + 1)) := by
      unfold ul
      rw [List.drop_eq_getElem_cons hlt, List.flatMap_cons]
      simp only [List.append_assoc]
    rw [e]
    exact ih
theorem put_f (l : List S89) (hr : Rt l) : Ev (fun k => labels_Put.f k ([] : List Int) l) (uls l, 0) := by
  have hw : WfL l := fun x hx => by have := one_size (hr.one x hx); omega
  have hsz : ∀ x ∈ l, x.f0.size ≤ 64 ∧ x.f1.size ≤ 256 := fun x hx => one_size (hr.one x hx)
  have h0 := (right_iff l).2 hr
  have hf := hr.few
  unfold labels_Put.f labels_right.f
  refine Ev.bind (a := (rightF l).1) (Ev.bind (right_f l hw) (Ev.now _)) ?_
  simp only [h0, if_true]
  have ew : IntKind.u64.wrap (l.length : Int) = (l.length : Int) := by
    unfold IntKind.wrap IntKind.bits
    simp only [IntKind.signed, Bool.false_and, Bool.false_eq_true, if_false]
    omega
  rw [ew]
  refine Ev.bind (a := uv l.length) ⟨2, fun k hk => by have := putU_f [] l.length (by omega) (by simp) k hk; simpa using this⟩ ?_
  have := put_l0 l hsz hf l.length 0 (uv l.length) (by omega) (by have := uv_len l.length; omega)
  simpa [uls] using this
end Go.Proofs.YtoncpeadbhgmaaaGreatDoor.G

set_option linter.unusedVariables false
set_option linter.unusedSimpArgs false
namespace Go.Proofs.YtoncpeadbhgmaaaGreatDoor.G
open Go.RowKit Go.Sort Go.Proofs.YtoncpeadbhgmaaaGreatDoorW.PrintWords

noncomputable def decLs : DecidableEq (List S89) := fun a b => Classical.propDecidable (a = b)
/-- A label set's bytes, as the key of a map. -/
def keyOf (l : List S89) : List UInt8 := (strOfNums (uls l)).data.toList
theorem uls_byt (l : List S89) (hr : Rt l) : Byt (uls l) := by
  intro x hx
  unfold uls at hx
  have hf := hr.few
  rcases List.mem_append.1 hx with h | h
  · exact uv_byt _ (by omega) x h
  · obtain ⟨y, hy, h⟩ := List.mem_flatMap.1 h
    have hs := one_size (hr.one y hy)
    rcases List.mem_append.1 h with h | h
    · rcases List.mem_append.1 h with h | h
      · exact uv_byt _ (by omega) x h
      · exact bytes_byt _ x h
    · rcases List.mem_append.1 h with h | h
      · exact uv_byt _ (by omega) x h
      · exact bytes_byt _ x h
theorem nums_inj : ∀ {l m : List Int}, Byt l → Byt m → (l.map fun n => UInt8.ofNat n.toNat) = (m.map fun n => UInt8.ofNat n.toNat) → l = m
  | [], [], _, _, _ => rfl
  | [], _ :: _, _, _, h => by simp at h
  | _ :: _, [], _, _, h => by simp at h
  | a :: l, b :: m, ha, hb, h => by
    simp only [List.map_cons, List.cons.injEq] at h
    have h1 := ha a (by simp)
    have h2 := hb b (by simp)
    have h3 := congrArg UInt8.toNat h.1
    simp only [UInt8.toNat_ofNat'] at h3
    rw [nums_inj (fun x hx => ha x (List.mem_cons_of_mem _ hx)) (fun x hx => hb x (List.mem_cons_of_mem _ hx)) h.2, show a = b by omega]
theorem keyOf_inj {l m : List S89} (hl : Rt l) (hm : Rt m) (h : keyOf l = keyOf m) : l = m := by
  unfold keyOf at h
  rw [strOfNums_data, strOfNums_data] at h
  exact uls_inj (nums_inj (uls_byt l hl) (uls_byt m hm) h)

structure GMet (g : S41 → List S89) (done : List S41) (st : GSt) : Prop where
  met : @Met _ _ g done st.keys st.outs decLs
  ks : st.ks = st.keys.map keyOf
  few : st.outs.length ≤ done.length
  short : ∀ o ∈ st.outs, o.length ≤ done.length
theorem gmet_step {g : S41 → List S89} {done : List S41} {st : GSt} (h : GMet g done st) (p : S41) (hr : ∀ q, q ∈ done ∨ q = p → Rt (g q)) :
    GMet g (done ++ [p]) ((st.met (g p) (keyOf (g p))).put (keyOf (g p)) p) ∧ (rd_L5 (st.met (g p) (keyOf (g p))).outs ((st.met (g p) (keyOf (g p))).ks.idxOf (keyOf (g p)) : Int)).length ≤ done.length := by
  letI := decLs
  have hlen := h.met.len
  have hkeys : ∀ q ∈ st.keys, Rt q := fun q hq => by
    obtain ⟨i, hi⟩ := List.getElem?_of_mem hq
    have hil := (List.getElem?_eq_some_iff.1 hi).1
    obtain ⟨h1, h2⟩ := h.met.part i q st.outs[i] hi (List.getElem?_eq_getElem (by omega))
    rw [h1] at h2
    obtain ⟨a, ha⟩ := List.exists_mem_of_ne_nil _ h2
    obtain ⟨ha1, ha2⟩ := List.mem_filter.1 ha
    rw [← of_decide_eq_true ha2]
    exact hr a (.inl ha1)
  have hinj : ∀ q ∈ st.keys, keyOf q = keyOf (g p) → q = g p := fun q hq e => keyOf_inj (hkeys q hq) (hr p (.inr rfl)) e
  by_cases hm : keyOf (g p) ∈ st.ks
  · have e : st.met (g p) (keyOf (g p)) = st := by simp [GSt.met, hm]
    rw [e]
    have hi := idx_old hinj (by rw [← h.ks]; exact hm)
    rw [← h.ks] at hi
    have hil : st.ks.idxOf (keyOf (g p)) < st.outs.length := by rw [← hlen]; exact (List.getElem?_eq_some_iff.1 hi).1
    have hrd : rd_L5 st.outs (st.ks.idxOf (keyOf (g p)) : Int) = st.outs.getD (st.ks.idxOf (keyOf (g p))) [] := by simp [rd_L5]
    have hsh : (st.outs.getD (st.ks.idxOf (keyOf (g p))) []).length ≤ done.length := by
      rw [List.getD_eq_getElem?_getD, List.getElem?_eq_getElem hil]
      exact h.short _ (List.getElem_mem _)
    refine ⟨⟨?_, h.ks, by simp [GSt.put]; have := h.few; omega, fun o ho => ?_⟩, by rw [hrd]; exact hsh⟩
    · have := met_old h.met p _ hi
      simpa [GSt.put, hrd] using this
    · simp only [GSt.put, hrd] at ho
      rcases List.mem_or_eq_of_mem_set ho with h1 | h1
      · have := h.short o h1; simp only [List.length_append, List.length_cons, List.length_nil]; omega
      · subst h1; simp only [List.length_append, List.length_cons, List.length_nil]; omega
  · have e : st.met (g p) (keyOf (g p)) = ⟨st.keys ++ [g p], st.ks ++ [keyOf (g p)], st.outs ++ [[]]⟩ := by simp [GSt.met, hm]
    rw [e]
    have hidx : (st.ks ++ [keyOf (g p)]).idxOf (keyOf (g p)) = st.keys.length := by rw [idx_new hm, h.ks]; simp
    have hnk : g p ∉ st.keys := fun hk => hm (by rw [h.ks]; exact List.mem_map.2 ⟨_, hk, rfl⟩)
    have hrd : rd_L5 (st.outs ++ [[]]) (st.keys.length : Int) = (st.outs ++ [[]]).getD st.keys.length [] := by simp [rd_L5]
    have hz : (st.outs ++ [[]]).getD st.keys.length [] = [] := by rw [hlen]; simp
    refine ⟨⟨?_, ?_, by simp [GSt.put]; have := h.few; omega, fun o ho => ?_⟩, by simp only [hidx, hrd, hz]; simp⟩
    · have := met_new h.met p hnk
      simpa only [GSt.put, hidx, hrd] using this
    · simp [GSt.put, h.ks]
    · simp only [GSt.put, hidx, hrd, hz] at ho
      rcases List.mem_or_eq_of_mem_set ho with h1 | h1
      · rcases List.mem_append.1 h1 with h2 | h2
        · have := h.short o h2; simp; omega
        · have := List.mem_singleton.1 h2; subst this; simp
      · subst h1; simp
theorem gfold_ev (names : List ByteArray) (wo : Bool) (hn : names.length < 8796093022208) : ∀ (l done : List S41) (st : GSt), GMet (fun p => groupF p.f0 names wo) done st → (∀ q, q ∈ done ∨ q ∈ l → Rt q.f0) → done.length + l.length ≤ 1000 →
    ∃ fin, Ev (fun k => gfold k names wo l st) fin ∧ GMet (fun p => groupF p.f0 names wo) (done ++ l) fin
  | [], done, st, h, hr, hl => ⟨st, Ev.now _, by simpa using h⟩
  | p :: l, done, st, h, hr, hl => by
    have hp : Rt p.f0 := hr p (.inr (by simp))
    have hw : WfL p.f0 := fun x hx => by have := one_size (hp.one x hx); omega
    obtain ⟨h1, h2⟩ := gmet_step h p (fun q hq => by
      rcases hq with hq | hq
      · exact (hr q (.inl hq)).group names wo
      · subst hq; exact hp.group names wo)
    simp only [List.length_cons] at hl
    obtain ⟨fin, hf, hm⟩ := gfold_ev names wo hn l (done ++ [p]) _ h1 (fun q hq => hr q (by
      rcases hq with hq | hq
      · rcases List.mem_append.1 hq with hq | hq
        · exact .inl hq
        · exact .inr (by simp [List.mem_singleton.1 hq])
      · exact .inr (List.mem_cons_of_mem _ hq))) (by simp; omega)
    refine ⟨fin, ?_, by simpa using hm⟩
    simp only [gfold]
    refine Ev.bind (a := (st.met (groupF p.f0 names wo) (keyOf (groupF p.f0 names wo))).put (keyOf (groupF p.f0 names wo)) p) ?_ hf
    unfold gput
    refine Ev.bind (group_f p.f0 names wo hw hn ((right_iff _).2 hp)) ?_
    refine Ev.bind (put_f _ (hp.group names wo)) ?_
    have hfew := h.few
    have hc : st.outs.length < 1048576 ∧ (rd_L5 (st.met (groupF p.f0 names wo) (strOfNums (uls (groupF p.f0 names wo))).data.toList).outs ((st.met (groupF p.f0 names wo) (strOfNums (uls (groupF p.f0 names wo))).data.toList).ks.idxOf (strOfNums (uls (groupF p.f0 names wo))).data.toList : Int)).length < 1048576 := by
      refine ⟨by omega, ?_⟩
      have h2' : (rd_L5 (st.met (groupF p.f0 names wo) (strOfNums (uls (groupF p.f0 names wo))).data.toList).outs ((st.met (groupF p.f0 names wo) (strOfNums (uls (groupF p.f0 names wo))).data.toList).ks.idxOf (strOfNums (uls (groupF p.f0 names wo))).data.toList : Int)).length ≤ done.length := h2
      omega
    simp only [hc, and_self, if_true]
    exact Ev.now _
/-- What the walk of aggr.Groups leaves is what the reference's parts are. -/
theorem groups_same {names : List ByteArray} {wo : Bool} {all : List S41} {fin : GSt} (h : GMet (fun p => groupF p.f0 names wo) all fin) (ys : List (Fin fin.outs.length)) (hp : ys.Perm (List.finRange fin.outs.length))
    (hs : ys.Pairwise fun a b => ¬ cmpLs (fin.keys.getD b.1 []) (fin.keys.getD a.1 []) < 0) : (ys.map fun i => fin.outs[i]) = (gparts cmpLs (fun p => groupF p.f0 names wo) all).map (·.2) := by
  letI := decLs
  have h1 := met_sorted cmpLs_lin h.met [] ys hp hs
  have h2 := isGroups_unique cmpLs_lin h1 (gparts_groups cmpLs_lin all)
  rw [← h2, List.map_map]
  rfl
end Go.Proofs.YtoncpeadbhgmaaaGreatDoor.G

set_option linter.unusedVariables false
set_option linter.unusedSimpArgs false
namespace Go.Proofs.YtoncpeadbhgmaaaGreatDoor.G
open Go.RowKit Go.Sort Go.Proofs.YtoncpeadbhgmaaaGreatDoorW.PrintWords

abbrev pf0 (x : S41) : List S89 := x.f0
/-- The label sets are right, all of them. -/
def AllRt (l : List S41) : Prop := ∀ p ∈ l, Rt p.f0
open Classical in
/-- A vector in order, or what is wrong. -/
noncomputable def VecE (l : List S41) : List S41 × Int :=
  if 1000 < l.length then ([], 7) else if AllRt l then (if Twice cmpLs pf0 l then ([], 150) else (isort cmpLs pf0 l, 0)) else ([], 41)
def WfP (l : List S41) : Prop := ∀ p ∈ l, WfL p.f0
theorem rdp_at (l : List S41) (i : Nat) (h : i < l.length) : rd_T41 l (i : Int) = l[i] := by simp [rd_T41, List.getD_eq_getElem?_getD, h]
theorem vec_l2 (ys : List S41) (hl : ys.length ≤ 1000) : ∀ (d i k : Nat), i + d = ys.length ∨ (ys.length < i ∧ d = 0) → 1 ≤ i → d < k →
    ((∃ j a b, i ≤ j ∧ ys[j - 1]? = some a ∧ ys[j]? = some b ∧ cmpLs a.f0 b.f0 = 0) → vec_Vector.l2 k ys (i : Int) = some ([], 150)) ∧
    ((¬ ∃ j a b, i ≤ j ∧ ys[j - 1]? = some a ∧ ys[j]? = some b ∧ cmpLs a.f0 b.f0 = 0) → vec_Vector.l2 k ys (i : Int) = some (ys, 0))
  | 0, i, k, hi, h1, hk => by
    obtain ⟨k, rfl⟩ : ∃ m, k = m + 1 := ⟨k - 1, by omega⟩
    have hn : ¬ ((i : Int) < (ys.length : Int)) := by omega
    constructor
    · rintro ⟨j, a, b, hj, _, hb, _⟩
      have := (List.getElem?_eq_some_iff.1 hb).1
      omega
    · intro _
      rw [vec_Vector.l2, if_neg hn]
  | d + 1, i, k, hi, h1, hk => by
    obtain ⟨k, rfl⟩ : ∃ m, k = m + 1 := ⟨k - 1, by omega⟩
    have hlt : i < ys.length := by omega
    have hc : (i : Int) < (ys.length : Int) := by omega
    have hw : wrap64 ((i : Int) - 1) = ((i - 1 : Nat) : Int) := by rw [wrap_in _ (by omega) (by omega)]; omega
    have h0 : (0 : Int) ≤ ((i - 1 : Nat) : Int) := by omega
    have h2 : ((i - 1 : Nat) : Int) < (ys.length : Int) := by omega
    have h3 : (0 : Int) ≤ (i : Int) := by omega
    have ih := vec_l2 ys hl d (i + 1) k (by omega) (by omega) (by omega)
    rw [vec_Vector.l2, if_pos hc, hw, if_pos h0, if_pos h2, if_pos h3, rdp_at ys (i - 1) (by omega), rdp_at ys i hlt]
    simp only [labels_Compare.f, Option.bind_some]
    by_cases e : cmpLs ys[i - 1].f0 ys[i].f0 = 0
    · rw [if_pos e]
      exact ⟨fun _ => rfl, fun h => absurd ⟨i, _, _, Nat.le_refl _, List.getElem?_eq_getElem (by omega), List.getElem?_eq_getElem hlt, e⟩ h⟩
    · rw [if_neg e, wrap_succ i (by omega)]
      refine ⟨fun ⟨j, a, b, hj, ha, hb, h0⟩ => ih.1 ⟨j, a, b, ?_, ha, hb, h0⟩, fun h => ih.2 (fun ⟨j, a, b, hj, hr⟩ => h ⟨j, a, b, by omega, hr⟩)⟩
      apply Nat.lt_of_le_of_ne hj
      intro e2
      subst e2
      rw [List.getElem?_eq_getElem (by omega)] at ha hb
      have ea := Option.some.inj ha
      have eb := Option.some.inj hb
      rw [← ea, ← eb] at h0
      exact e h0
theorem near_iff {ys : List S41} (hu : Up cmpLs pf0 ys) : (∃ j a b, 1 ≤ j ∧ ys[j - 1]? = some a ∧ ys[j]? = some b ∧ cmpLs a.f0 b.f0 = 0) ↔ Twice cmpLs pf0 ys := by
  constructor
  · rintro ⟨j, a, b, hj, ha, hb, h0⟩
    exact ⟨j - 1, j, a, b, by omega, ha, hb, h0⟩
  · intro h
    obtain ⟨i, a, b, ha, hb, h0⟩ := twice_near cmpLs_lin hu h
    exact ⟨i + 1, a, b, by omega, by simpa using ha, hb, h0⟩
theorem vec_sort (l : List S41) (hl : l.length ≤ 1000) (k : Nat) (hk : 1000 < k) :
    (Twice cmpLs pf0 l → sortAll cmpPt l (fun y => vec_Vector.l2 k y 1) = some ([], 150)) ∧ (¬ Twice cmpLs pf0 l → sortAll cmpPt l (fun y => vec_Vector.l2 k y 1) = some (isort cmpLs pf0 l, 0)) := by
  have hex : ∃ ys : List S41, ys.Perm l ∧ ys.Pairwise fun a b => ¬ cmpPt b a < 0 := ⟨isort cmpLs pf0 l, isort_perm l, isort_up cmpLs_lin l⟩
  refine ⟨fun ht => sortAll_eq (by omega) hex fun ys hp hs => ?_, fun ht => sortAll_eq (by omega) hex fun ys hp hs => ?_⟩
  · have hlen := hp.length_eq
    cases ys with
    | nil =>
      have : l = [] := List.length_eq_zero_iff.1 (by simpa using hlen.symm)
      subst this
      obtain ⟨i, j, a, b, _, ha, _⟩ := ht
      simp at ha
    | cons y ys =>
      exact (vec_l2 (y :: ys) (by omega) ys.length 1 k (by simp; omega) (Nat.le_refl _) (by simp at hlen; omega)).1 ((near_iff hs).2 ((twice_perm cmpLs_lin hp).2 ht))
  · have hlen := hp.length_eq
    have hn : ¬ Twice cmpLs pf0 ys := fun h => ht ((twice_perm cmpLs_lin hp).1 h)
    have e := up_isort cmpLs_lin hp hs ht
    cases ys with
    | nil =>
      have := (vec_l2 [] (by simp) 0 1 k (by simp) (Nat.le_refl _) (by omega)).2 (fun h => hn ((near_iff hs).1 h))
      rw [← e]; exact this
    | cons y ys =>
      have := (vec_l2 (y :: ys) (by omega) ys.length 1 k (by simp; omega) (Nat.le_refl _) (by simp at hlen; omega)).2 (fun h => hn ((near_iff hs).1 h))
      rw [← e]; exact this
theorem vec_l1 (l : List S41) (hr : AllRt l) (hl : l.length ≤ 1000) : ∀ (d i : Nat), i + d = l.length →
    Ev (fun k => vec_Vector.l1 k (l.take i) l (l.length : Int) (i : Int)) (VecE l)
  | 0, i, hi => by
    have hn : ¬ ((i : Int) < (l.length : Int)) := by omega
    obtain rfl : i = l.length := by omega
    refine Ev.step (fun k => by rw [vec_Vector.l1, if_neg hn]) ?_
    rw [List.take_length]
    have h7 : ¬ 1000 < l.length := by omega
    unfold VecE
    rw [if_neg h7, if_pos hr]
    by_cases ht : Twice cmpLs pf0 l
    · rw [if_pos ht]; exact ⟨1001, fun k hk => (vec_sort l hl k (by omega)).1 ht⟩
    · rw [if_neg ht]; exact ⟨1001, fun k hk => (vec_sort l hl k (by omega)).2 ht⟩
  | d + 1, i, hi => by
    have hlt : i < l.length := by omega
    have hc : (i : Int) < (l.length : Int) := by omega
    have h0 : (0 : Int) ≤ (i : Int) := by omega
    have hf := (hr l[i] (List.getElem_mem hlt)).few
    refine Ev.step (fun k => by rw [vec_Vector.l1, if_pos hc, if_pos h0, if_pos hc, rdp_at l i hlt]) ?_
    have hcl : slices_Clone_tocsin_api_Label_tocsin_api_Label.f l[i].f0 = some l[i].f0 := by unfold slices_Clone_tocsin_api_Label_tocsin_api_Label.f; rw [if_pos (by omega)]
    have htl : (l.take i).length < 4398046511104 := by rw [List.length_take]; omega
    have ih := vec_l1 l hr hl d (i + 1) (by omega)
    have e : l.take i ++ [(⟨l[i].f0, l[i].f1⟩ : S41)] = l.take (i + 1) := by rw [List.take_add_one, List.getElem?_eq_getElem hlt]; rfl
    simp only [hcl, Option.bind_some, htl, if_true, e, wrap_succ i (by omega)]
    exact ih
theorem vec_l0 (l : List S41) (hw : WfP l) (hl : l.length ≤ 1000) : ∀ (d i : Nat), i + d = l.length → AllRt (l.take i) →
    Ev (fun k => vec_Vector.l0 k l l (l.length : Int) (i : Int)) (VecE l)
  | 0, i, hi, hr => by
    have hn : ¬ ((i : Int) < (l.length : Int)) := by omega
    obtain rfl : i = l.length := by omega
    rw [List.take_length] at hr
    refine Ev.step (fun k => by rw [vec_Vector.l0, if_neg hn]) ?_
    have := vec_l1 l hr hl l.length 0 (by omega)
    simpa using this
  | d + 1, i, hi, hr => by
    have hlt : i < l.length := by omega
    have hc : (i : Int) < (l.length : Int) := by omega
    have h0 : (0 : Int) ≤ (i : Int) := by omega
    have hm : l[i] ∈ l := List.getElem_mem hlt
    refine Ev.step (fun k => by rw [vec_Vector.l0, if_pos hc, if_pos h0, if_pos hc, rdp_at l i hlt]) ?_
    refine Ev.bind (right_f l[i].f0 (hw _ hm)) ?_
    by_cases h : (rightF l[i].f0).1 = 0
    · simp only [h, if_true, wrap_succ i (by omega)]
      refine vec_l0 l hw hl d (i + 1) (by omega) ?_
      rw [show l.take (i + 1) = l.take i ++ [l[i]] by rw [List.take_add_one, List.getElem?_eq_getElem hlt]; rfl]
      intro p hp
      rcases List.mem_append.1 hp with hp | hp
      · exact hr p hp
      · rw [List.mem_singleton.1 hp]; exact (right_iff _).1 h
    · simp only [h, if_false]
      have : VecE l = ([], 41) := by
        unfold VecE
        rw [if_neg (by omega), if_neg (fun hr => h ((right_iff _).2 (hr _ hm)))]
      rw [this]
      exact Ev.now _
theorem vec_f (l : List S41) (hw : WfP l) : Ev (fun k => vec_Vector.f k l) (VecE l) := by
  unfold vec_Vector.f
  by_cases h : 1000 < l.length
  · have h1 : (l.length : Int) > 1000 := by omega
    simp only [h1, if_true]
    unfold VecE
    rw [if_pos h]
    exact Ev.now _
  · have h1 : ¬ (l.length : Int) > 1000 := by omega
    simp only [h1, if_false]
    exact vec_l0 l hw (by omega) l.length 0 (by omega) (by simp [AllRt])

theorem rvec_l2 (l out : List S41) (m : Bool) (i : Nat) (hi : i < l.length) (hl : l.length ≤ 1000) (ho : out.length ≤ 1000) (hfo : ∀ p ∈ out, p.f0.length ≤ 16) (hfp : l[i].f0.length ≤ 16) {r : List S41 × Int} :
    ∀ n : Nat, n ≤ out.length → (∀ j y, out[j]? = some y → n ≤ j → cmpLs y.f0 l[i].f0 > 0) →
    (∀ n0 : Nat, n0 ≤ out.length → (∀ j y, out[j]? = some y → n0 ≤ j → cmpLs y.f0 l[i].f0 > 0) → (∀ y, 0 < n0 → out[n0 - 1]? = some y → ¬ cmpLs y.f0 l[i].f0 > 0) → Ev (fun k => tocsinref15_Vector.j3 k l out m (i : Int) (n0 : Int)) r) →
    Ev (fun k => tocsinref15_Vector.l2 k l out m (i : Int) (n : Int)) r
  | 0, hn, h1, K => by
    have h0 : ¬ (((0 : Nat) : Int) > 0) := by omega
    refine Ev.step (fun k => by rw [tocsinref15_Vector.l2, if_neg h0]) ?_
    exact K 0 hn h1 (fun y h => by omega)
  | n + 1, hn, h1, K => by
    have h0 : ((n + 1 : Nat) : Int) > 0 := by omega
    have hw : wrap64 (((n + 1 : Nat) : Int) - 1) = ((n : Nat) : Int) := by rw [wrap_in _ (by omega) (by omega)]; omega
    have ha : (0 : Int) ≤ ((n : Nat) : Int) := by omega
    have hb : ((n : Nat) : Int) < (out.length : Int) := by omega
    have hc : (0 : Int) ≤ (i : Int) := by omega
    have hd : (i : Int) < (l.length : Int) := by omega
    refine Ev.step (fun k => by rw [tocsinref15_Vector.l2, if_pos h0, hw, if_pos ha, if_pos hb, if_pos hc, if_pos hd, rdp_at out n (by omega), rdp_at l i hi]) ?_
    have hf1 := hfo out[n] (List.getElem_mem _)
    refine Ev.bind (compare_f out[n].f0 l[i].f0 (by omega) (by omega)) ?_
    by_cases e : cmpLs out[n].f0 l[i].f0 > 0
    · simp only [e, if_true]
      refine rvec_l2 l out m i hi hl ho hfo hfp n (by omega) (fun j y hy hj => ?_) K
      by_cases e2 : j = n
      · subst e2
        rw [List.getElem?_eq_getElem (by omega)] at hy
        obtain rfl := Option.some.inj hy
        exact e
      · exact h1 j y hy (by omega)
    · simp only [e, if_false]
      refine K (n + 1) hn h1 (fun y _ hy => ?_)
      simp only [Nat.add_sub_cancel] at hy
      rw [List.getElem?_eq_getElem (by omega)] at hy
      obtain rfl := Option.some.inj hy
      exact e
theorem isort_few (l : List S41) (hr : AllRt l) : ∀ p ∈ isort cmpLs pf0 l, p.f0.length ≤ 16 := fun p hp => (hr p ((isort_perm l).mem_iff.1 hp)).few
open Classical in
theorem rvec_l1 (l : List S41) (hr : AllRt l) (hl : l.length ≤ 1000) : ∀ (d i : Nat), i + d = l.length →
    Ev (fun k => tocsinref15_Vector.l1 k l (isort cmpLs pf0 (l.take i)) (decide (Twice cmpLs pf0 (l.take i))) (i : Int)) (VecE l)
  | 0, i, hi => by
    have hn : ¬ ((i : Int) < (l.length : Int)) := by omega
    obtain rfl : i = l.length := by omega
    refine Ev.step (fun k => by rw [tocsinref15_Vector.l1, if_neg hn]) ?_
    rw [List.take_length]
    have h7 : ¬ 1000 < l.length := by omega
    have hV : VecE l = if Twice cmpLs pf0 l then ([], 150) else (isort cmpLs pf0 l, 0) := by unfold VecE; rw [if_neg h7, if_pos hr]
    rw [hV]
    by_cases ht : Twice cmpLs pf0 l
    · simp only [ht, decide_true, if_true]; exact Ev.now _
    · simp only [ht, decide_false, Bool.false_eq_true, if_false]; exact Ev.now _
  | d + 1, i, hi => by
    have hlt : i < l.length := by omega
    have hc : (i : Int) < (l.length : Int) := by omega
    have h0 : (0 : Int) ≤ (i : Int) := by omega
    have hm : l[i] ∈ l := List.getElem_mem hlt
    have hfp := (hr l[i] hm).few
    have htk : l.take (i + 1) = l.take i ++ [l[i]] := by rw [List.take_add_one, List.getElem?_eq_getElem hlt]; rfl
    have ih := rvec_l1 l hr hl d (i + 1) (by omega)
    rw [htk, isort_snoc] at ih
    have hrt : AllRt (l.take i) := fun p hp => hr p (List.mem_of_mem_take hp)
    have hup := isort_up (c := cmpLs) (f := pf0) cmpLs_lin (l.take i)
    have hfo := isort_few (l.take i) hrt
    have hmem : ∀ y, y ∈ isort cmpLs pf0 (l.take i) ↔ y ∈ l.take i := fun y => (isort_perm (l.take i)).mem_iff
    have hol : (isort cmpLs pf0 (l.take i)).length = i := by rw [(isort_perm (l.take i)).length_eq, List.length_take]; omega
    refine Ev.step (fun k => by rw [tocsinref15_Vector.l1, if_pos hc]) ?_
    have htw := twice_snoc (f := pf0) cmpLs_lin (l.take i) l[i]
    generalize isort cmpLs pf0 (l.take i) = out at *
    refine rvec_l2 l out _ i hlt hl (by omega) hfo hfp out.length (Nat.le_refl _) (fun j y hy hj => by have := (List.getElem?_eq_some_iff.1 hy).1; omega) ?_
    intro n hn h1 h2
    obtain ⟨hins, hnear⟩ := place_near cmpLs_lin hup l[i] n hn h1 h2
    have hwi : wrap64 ((i : Int) + 1) = ((i + 1 : Nat) : Int) := wrap_succ i (by omega)
    have hj4 : Ev (fun k => tocsinref15_Vector.j4 k l out (decide (Twice cmpLs pf0 (l.take i ++ [l[i]]))) (i : Int) (n : Int)) (VecE l) := by
      have a0 : (0 : Int) ≤ (n : Int) := by omega
      have a1 : (n : Int) ≤ (out.length : Int) := by omega
      have a2 : ([] : List S41).length + (out.take (n : Int).toNat).length < 4398046511104 := by simp; omega
      have a3 : (([] : List S41) ++ out.take (n : Int).toNat).length < 4398046511104 := by simp; omega
      have a4 : (([] : List S41) ++ out.take (n : Int).toNat ++ [(⟨l[i].f0, l[i].f1⟩ : S41)]).length + (out.drop (n : Int).toNat).length < 4398046511104 := by simp; omega
      have hown : tocsinref09_Own.f l[i].f0 = some l[i].f0 := by unfold tocsinref09_Own.f; rw [if_pos (by simp; omega)]; rfl
      refine Ev.step (fun k => by rw [tocsinref15_Vector.j4, if_pos a0, if_pos a1]) ?_
      simp only [Option.bind_some]
      simp only [if_pos a2, if_pos h0, if_pos hc, rdp_at l i hlt, hown, Option.bind_some, if_pos a3, if_pos a4, hwi]
      have e : ([] : List S41) ++ out.take (n : Int).toNat ++ [(⟨l[i].f0, l[i].f1⟩ : S41)] ++ out.drop (n : Int).toNat = vins cmpLs pf0 out l[i] := by rw [hins]; simp
      rw [e]
      exact ih
    have hdec : ∀ b : Bool, (b = true ↔ ∃ y, 0 < n ∧ out[n - 1]? = some y ∧ cmpLs y.f0 l[i].f0 = 0) → ¬ Twice cmpLs pf0 (l.take i) → b = decide (Twice cmpLs pf0 (l.take i ++ [l[i]])) := fun b hb ht => by
      rw [Bool.eq_iff_iff, decide_eq_true_iff, hb, htw, ← hnear]
      exact ⟨fun ⟨y, hy, e⟩ => .inr ⟨y, (hmem y).1 hy, e⟩, fun h => (h.resolve_left ht).elim fun y hy => ⟨y, (hmem y).2 hy.1, hy.2⟩⟩
    by_cases ht : Twice cmpLs pf0 (l.take i)
    · have e1 : decide (Twice cmpLs pf0 (l.take i)) = true := decide_eq_true ht
      have e2 : decide (Twice cmpLs pf0 (l.take i ++ [l[i]])) = true := decide_eq_true (htw.2 (.inl ht))
      rw [e2] at hj4
      rw [e1]
      refine Ev.step (fun k => by rw [tocsinref15_Vector.j3, if_pos rfl]) ?_
      exact hj4
    · have e1 : decide (Twice cmpLs pf0 (l.take i)) = false := decide_eq_false ht
      rw [e1]
      by_cases hn0 : n = 0
      · subst hn0
        have e2 := hdec false ⟨(fun h => by cases h), (fun ⟨y, h, _⟩ => by omega)⟩ ht
        rw [← e2] at hj4
        refine Ev.step (fun k => by rw [tocsinref15_Vector.j3]) ?_
        simpa using hj4
      · have b0 : (n : Int) > 0 := by omega
        have hw : wrap64 ((n : Int) - 1) = ((n - 1 : Nat) : Int) := by rw [wrap_in _ (by omega) (by omega)]; omega
        have b1 : (0 : Int) ≤ ((n - 1 : Nat) : Int) := by omega
        have b2 : ((n - 1 : Nat) : Int) < (out.length : Int) := by omega
        have hf1 := hfo out[n - 1] (List.getElem_mem _)
        have e2 := hdec (cmpLs out[n - 1].f0 l[i].f0 == 0) ⟨fun h => ⟨_, by omega, List.getElem?_eq_getElem (by omega), by simpa using h⟩, fun ⟨y, _, hy, h⟩ => by
          rw [List.getElem?_eq_getElem (by omega)] at hy
          have ey := Option.some.inj hy
          rw [← ey] at h
          simpa using h⟩ ht
        rw [← e2] at hj4
        refine Ev.step (fun k => by rw [tocsinref15_Vector.j3, hw, if_neg (by simp), if_pos b0, if_pos b1, if_pos b2, if_pos h0, if_pos hc, rdp_at out (n - 1) (by omega), rdp_at l i hlt]) ?_
        exact Ev.bind (same_f out[n - 1].f0 l[i].f0 (by omega) (by omega)) hj4
theorem rvec_l0 (l : List S41) (hw : WfP l) (hl : l.length ≤ 1000) : ∀ (d i : Nat), i + d = l.length → AllRt (l.take i) →
    Ev (fun k => tocsinref15_Vector.l0 k l (i : Int)) (VecE l)
  | 0, i, hi, hr => by
    have hn : ¬ ((i : Int) < (l.length : Int)) := by omega
    obtain rfl : i = l.length := by omega
    rw [List.take_length] at hr
    refine Ev.step (fun k => by rw [tocsinref15_Vector.l0, if_neg hn]) ?_
    have := rvec_l1 l hr hl l.length 0 (by omega)
    have e : ¬ Twice cmpLs pf0 ([] : List S41) := fun ⟨i, j, a, b, _, ha, _⟩ => by simp at ha
    simpa [isort, e] using this
  | d + 1, i, hi, hr => by
    have hlt : i < l.length := by omega
    have hc : (i : Int) < (l.length : Int) := by omega
    have h0 : (0 : Int) ≤ (i : Int) := by omega
    have hm : l[i] ∈ l := List.getElem_mem hlt
    refine Ev.step (fun k => by rw [tocsinref15_Vector.l0, if_pos hc, if_pos h0, rdp_at l i hlt]) ?_
    refine Ev.bind (rright_f l[i].f0 (hw _ hm)) ?_
    by_cases h : (rightF l[i].f0).1 = 0
    · simp only [h, if_true, wrap_succ i (by omega)]
      refine rvec_l0 l hw hl d (i + 1) (by omega) ?_
      rw [show l.take (i + 1) = l.take i ++ [l[i]] by rw [List.take_add_one, List.getElem?_eq_getElem hlt]; rfl]
      intro p hp
      rcases List.mem_append.1 hp with hp | hp
      · exact hr p hp
      · rw [List.mem_singleton.1 hp]; exact (right_iff _).1 h
    · simp only [h, if_false]
      have : VecE l = ([], 41) := by
        unfold VecE
        rw [if_neg (by omega), if_neg (fun hr => h ((right_iff _).2 (hr _ hm)))]
      rw [this]
      exact Ev.now _
theorem rvec_f (l : List S41) (hw : WfP l) : Ev (fun k => tocsinref15_Vector.f k l) (VecE l) := by
  unfold tocsinref15_Vector.f
  by_cases h : 1000 < l.length
  · have h1 : (l.length : Int) > 1000 := by omega
    simp only [h1, if_true]
    unfold VecE
    rw [if_pos h]
    exact Ev.now _
  · have h1 : ¬ (l.length : Int) > 1000 := by omega
    simp only [h1, if_false]
    exact rvec_l0 l hw (by omega) l.length 0 (by omega) (by simp [AllRt])
end Go.Proofs.YtoncpeadbhgmaaaGreatDoor.G

set_option linter.unusedVariables false
set_option linter.unusedSimpArgs false
namespace Go.Proofs.YtoncpeadbhgmaaaGreatDoor.G
open Go.RowKit Go.Sort Go.Shelf Go.Proofs.YtoncpeadbhgmaaaGreatDoorW.PrintWords Go.Proofs.YtoncpeadbhgmaaaGreatDoorW.PrintLast Go.Proofs.YtoncpeadbhgmaaaGreatDoorW.PrintMore

theorem samePts_ev (l : List S41) (hl : l.length ≤ 1000000) (hf : ∀ p ∈ l, p.f0.length ≤ 16) : ∀ d i : Nat, i + d = l.length → Ev (fun k => tocsinref11_SamePoints.l0 k l l (i : Int)) true
  | 0, i, hi => by
    have hn : ¬ ((i : Int) < (l.length : Int)) := by omega
    refine Ev.step (fun k => by rw [tocsinref11_SamePoints.l0, if_neg hn]) ?_
    exact Ev.now _
  | d + 1, i, hi => by
    have hlt : i < l.length := by omega
    have hc : (i : Int) < (l.length : Int) := by omega
    have h0 : (0 : Int) ≤ (i : Int) := by omega
    have h1 := hf l[i] (List.getElem_mem hlt)
    refine Ev.step (fun k => by rw [tocsinref11_SamePoints.l0, if_pos hc, if_pos h0, if_pos hc, rdp_at l i hlt]) ?_
    refine Ev.bind (same_f l[i].f0 l[i].f0 (by omega) (by omega)) ?_
    rw [cmpLs_lin.refl]
    simp only [beq_self_eq_true, if_true, wrap_succ i (by omega)]
    exact samePts_ev l hl hf d (i + 1) (by omega)
theorem samePts_f (l : List S41) (hl : l.length ≤ 1000000) (hf : ∀ p ∈ l, p.f0.length ≤ 16) : Ev (fun k => tocsinref11_SamePoints.f k l l) true := by
  unfold tocsinref11_SamePoints.f
  simp only [if_true]
  exact samePts_ev l hl hf l.length 0 (by omega)
section
variable {κ α : Type} {c : κ → κ → Int} {g : α → κ}
theorem gins_sum : ∀ (gs : List (κ × List α)) (k : κ) (p : α), ((gins c gs k p).map (·.2.length)).sum = (gs.map (·.2.length)).sum + 1
  | [], k, p => by simp [gins]
  | x :: r, k, p => by
    simp only [gins]
    split
    · simp only [List.map_cons, List.sum_cons, gins_sum r k p]; omega
    · split
      · simp only [List.map_cons, List.sum_cons, List.length_append, List.length_cons, List.length_nil]; omega
      · simp only [List.map_cons, List.sum_cons, List.length_cons, List.length_nil]; omega
theorem gparts_sum (l : List α) : ((gparts c g l).map (·.2.length)).sum = l.length := by
  have : ∀ (l : List α) (gs : List (κ × List α)), ((l.foldl (fun gs p => gins c gs (g p) p) gs).map (·.2.length)).sum = (gs.map (·.2.length)).sum + l.length := by
    intro l
    induction l with
    | nil => intro gs; simp
    | cons p l ih => intro gs; rw [List.foldl_cons, ih, gins_sum]; simp; omega
  simpa [gparts] using this l []
end
theorem vecE_ok {l : List S41} (h : (VecE l).2 = 0) : (VecE l).1 = isort cmpLs pf0 l ∧ AllRt l ∧ l.length ≤ 1000 := by
  unfold VecE at h ⊢
  split at h
  · simp at h
  · rename_i h7
    split at h
    · rename_i hr
      split at h
      · simp at h
      · rename_i ht
        rw [if_neg h7, if_pos hr, if_neg ht]
        exact ⟨rfl, hr, by omega⟩
    · simp at h
/-- What the groups are, or what is wrong. -/
noncomputable def GsE (l : List S41) (names : List ByteArray) (wo : Bool) : List Part × Int :=
  if (VecE l).2 = 0 then (if namedAll names then (gparts cmpLs (fun p => groupF p.f0 names wo) (VecE l).1, 0) else ([], 40)) else ([], (VecE l).2)
theorem ag_nil (w w' : World) (hb : Below w.heap.size w w') : AG w w' (.slice none 0 0) [] := ⟨⟨w.heap.size, Nat.le_refl _, rows_nil _ _ _⟩, hb⟩
theorem rg_nil (w w' : World) (hb : Below w.heap.size w w') : RG w w' (.slice none 0 0) [] := ⟨⟨w.heap.size, w, Nat.le_refl _, [], Kd.R_nil _ _ _ _ _, pin_nil _ _ _, hb⟩, hb⟩
theorem gask_nil (k : Nat) (l : List S41) (names : List ByteArray) (wo : Bool) (er : Int) (h : er ≠ 0) : GAsk k l names wo [] er where
  same := fun o ho => by cases ho
  grp := fun o ho => by cases ho
  lab := fun o ho => by cases ho
  tot := fun h0 => absurd h0 h
  few := by simp
theorem le_sum_mem : ∀ (l : List Nat) (x : Nat), x ∈ l → x ≤ l.sum
  | [], x, h => by cases h
  | y :: l, x, h => by
    rw [List.sum_cons]
    rcases List.mem_cons.1 h with e | e
    · omega
    · have := le_sum_mem l x e; omega
theorem gask (l : List S41) (names : List ByteArray) (wo : Bool) (hw : WfP l) (hwn : WfN names) (hn : names.length < 8796093022208) : ∃ K, ∀ k, K ≤ k → GAsk k l names wo (GsE l names wo).1 (GsE l names wo).2 := by
  by_cases hv : (VecE l).2 = 0
  · by_cases hnm : namedAll names = true
    · obtain ⟨h1, hr, hl⟩ := vecE_ok hv
      have e : GsE l names wo = (gparts cmpLs (fun p => groupF p.f0 names wo) (isort cmpLs pf0 l), 0) := by unfold GsE; rw [if_pos hv, if_pos hnm, h1]
      rw [e]
      have hG := gparts_groups cmpLs_lin (g := fun p : S41 => groupF p.f0 names wo) (isort cmpLs pf0 l)
      have hsum := gparts_sum (c := cmpLs) (g := fun p : S41 => groupF p.f0 names wo) (isort cmpLs pf0 l)
      have hlen := (isort_perm (c := cmpLs) (f := pf0) l).length_eq
      have hmem : ∀ o ∈ gparts cmpLs (fun p : S41 => groupF p.f0 names wo) (isort cmpLs pf0 l), ∀ p ∈ o.2, p ∈ l ∧ groupF p.f0 names wo = o.1 := fun o ho p hp => by
        rw [hG.part o ho] at hp
        obtain ⟨a, b⟩ := List.mem_filter.1 hp
        exact ⟨(isort_perm l).mem_iff.1 a, ((cmpLs_lin.zero _ _).1 (by simpa using b)).symm⟩
      generalize gparts cmpLs (fun p : S41 => groupF p.f0 names wo) (isort cmpLs pf0 l) = outs at *
      have hol : ∀ o ∈ outs, o.2.length ≤ 1000 := fun o ho => by
        have h2 : o.2.length ≤ (outs.map (·.2.length)).sum := le_sum_mem _ _ (List.mem_map.2 ⟨o, ho, rfl⟩)
        omega
      have ho1 : ∀ o ∈ outs, o.1.length ≤ 16 := fun o ho => by
        obtain ⟨p, hp⟩ := List.exists_mem_of_ne_nil _ (hG.ne o ho)
        obtain ⟨a, b⟩ := hmem o ho p hp
        rw [← b]
        exact ((hr p a).group names wo).few
      obtain ⟨K1, k1⟩ := ev_all (f := fun k (o : Part) => tocsinref11_SamePoints.f k o.2 o.2) (r := fun _ => true) outs (fun o ho => samePts_f o.2 (by have := hol o ho; omega) (fun p hp => (hr p (hmem o ho p hp).1).few))
      obtain ⟨K2, k2⟩ := ev_all (f := fun k (p : S41) => aggr_Group.f k p.f0 names wo) (r := fun p => (groupF p.f0 names wo, 0)) l (fun p hp => by
        have := Group_f p.f0 names wo (hw p hp) hwn hn
        unfold GroupE at this
        rwa [if_pos ((right_iff _).2 (hr p hp)), if_pos hnm] at this)
      obtain ⟨K3, k3⟩ := ev_all (f := fun k (o : Part) => tocsinref04_Same.f k o.1 o.1) (r := fun _ => true) outs (fun o ho => by
        have := same_f o.1 o.1 (by have := ho1 o ho; omega) (by have := ho1 o ho; omega)
        rwa [cmpLs_lin.refl] at this)
      refine ⟨max K1 (max K2 K3), fun k hk => ⟨fun o ho => k1 k (by omega) o ho, fun o ho p hp => ?_, fun o ho => k3 k (by omega) o ho, fun _ => by show (outs.map (·.2.length)).sum = _; omega, by show (outs.map (·.2.length)).sum ≤ _; omega⟩⟩
      obtain ⟨a, b⟩ := hmem o ho p hp
      rw [k2 k (by omega) p a, b]
    · have e : GsE l names wo = ([], 40) := by unfold GsE; rw [if_pos hv, if_neg hnm]
      rw [e]
      exact ⟨0, fun k _ => gask_nil k l names wo 40 (by decide)⟩
  · have e : GsE l names wo = ([], (VecE l).2) := by unfold GsE; rw [if_neg hv]
    rw [e]
    exact ⟨0, fun k _ => gask_nil k l names wo _ hv⟩
section
variable (A0 : Option Addr) (c0 : Nat) (l0 : List S41) (A1 : Option Addr) (c1 : Nat) (l1 : List ByteArray) (a2 : Bool) (w : World)
theorem groups_any (hr0 : Kd.C k41 w A0 l0.length l0) (hc0 : l0.length ≤ c0) (hr1 : Kd.C Kd.string w A1 l1.length l1) (hc1 : l1.length ≤ c1) (hT : Tabs w) (hw : WfP l0) (hwn : WfN l1) (hn : l1.length < 8796093022208) :
    Calls Tryz.prog 32 #[.slice A0 l0.length c0, .slice A1 l1.length c1, .bool a2] w fun e w' => ∃ v, e = .returned (.tuple #[v, .int .i64 (GsE l0 l1 a2).2]) ∧ AG w w' v ((GsE l0 l1 a2).1.map (·.2)) := by
  obtain ⟨K1, k1⟩ := vec_f l0 hw
  by_cases hv : (VecE l0).2 = 0
  · obtain ⟨h1, hr, hl⟩ := vecE_ok hv
    have hve : VecE l0 = (isort cmpLs pf0 l0, 0) := Prod.ext h1 hv
    rw [hve] at k1
    obtain ⟨K2, k2⟩ := wrong_f l1 hwn (by omega)
    by_cases hnm : namedAll l1 = true
    · rw [if_pos hnm] at k2
      have hri : AllRt (isort cmpLs pf0 l0) := fun p hp => hr p ((isort_perm l0).mem_iff.1 hp)
      have hil := (isort_perm (c := cmpLs) (f := pf0) l0).length_eq
      obtain ⟨fin, ⟨K3, k3⟩, hm⟩ := gfold_ev l1 a2 hn (isort cmpLs pf0 l0) [] ⟨[], [], []⟩ ⟨@met_nil _ _ (fun p : S41 => groupF p.f0 l1 a2) decLs, rfl, Nat.le_refl _, fun o ho => by cases ho⟩ (fun q hq => hri q (by simpa using hq)) (by simp; omega)
      rw [List.nil_append] at hm
      have hfew := hm.few
      have e : GsE l0 l1 a2 = (gparts cmpLs (fun p => groupF p.f0 l1 a2) (isort cmpLs pf0 l0), 0) := by unfold GsE; rw [if_pos hv, if_pos hnm, h1]
      rw [e]
      refine (groups_walk (max K1 (max K2 K3)) A0 c0 l0 A1 c1 l1 a2 _ fin w hr0 hc0 hr1 hc1 hT (k1 _ (by omega)) (k2 _ (by omega)) (k3 _ (by omega)) (by omega)).mono ?_
      rintro e w' ⟨v, rfl, B, ys, hp, hs, hB, hR, hb⟩
      rw [groups_same hm ys hp hs] at hR
      exact ⟨v, rfl, ⟨B, hB, hR⟩, hb⟩
    · rw [if_neg hnm] at k2
      have e : GsE l0 l1 a2 = ([], 40) := by unfold GsE; rw [if_pos hv, if_neg hnm]
      rw [e]
      refine (groups_name (max K1 K2) A0 c0 l0 A1 c1 l1 a2 w _ hr0 hc0 hr1 hc1 hT (k1 _ (by omega)) (k2 _ (by omega))).mono ?_
      rintro e w' ⟨rfl, hb⟩
      exact ⟨_, rfl, ag_nil w w' hb⟩
  · have e : GsE l0 l1 a2 = ([], (VecE l0).2) := by unfold GsE; rw [if_neg hv]
    rw [e]
    refine (groups_bad K1 A0 c0 l0 A1 c1 l1 a2 w (VecE l0).1 (VecE l0).2 hr0 hc0 hT (k1 _ (Nat.le_refl _)) hv).mono ?_
    rintro e w' ⟨rfl, hb⟩
    exact ⟨_, rfl, ag_nil w w' hb⟩
theorem rgroups_any (hr0 : Kd.C k41 w A0 l0.length l0) (hc0 : l0.length ≤ c0) (hr1 : Kd.C Kd.string w A1 l1.length l1) (hc1 : l1.length ≤ c1) (hw : WfP l0) (hwn : WfN l1) (hn : l1.length < 8796093022208) :
    Calls Tryz.prog 39 #[.slice A0 l0.length c0, .slice A1 l1.length c1, .bool a2] w fun e w' => ∃ v, e = .returned (.tuple #[v, .int .i64 (GsE l0 l1 a2).2]) ∧ RG w w' v (GsE l0 l1 a2).1 := by
  obtain ⟨K1, k1⟩ := rvec_f l0 hw
  by_cases hv : (VecE l0).2 = 0
  · obtain ⟨h1, hr, hl⟩ := vecE_ok hv
    have hve : VecE l0 = (isort cmpLs pf0 l0, 0) := Prod.ext h1 hv
    rw [hve] at k1
    obtain ⟨K2, k2⟩ := named_f l1 hwn (by omega)
    have hil := (isort_perm (c := cmpLs) (f := pf0) l0).length_eq
    by_cases hnm : namedAll l1 = true
    · rw [hnm] at k2
      obtain ⟨K3, k3⟩ := pask (isort cmpLs pf0 l0) l1 a2 hn (by omega) (fun p hp => by have := (hr p ((isort_perm l0).mem_iff.1 hp)).few; omega)
      have e : GsE l0 l1 a2 = (gparts cmpLs (fun p => groupF p.f0 l1 a2) (isort cmpLs pf0 l0), 0) := by unfold GsE; rw [if_pos hv, if_pos hnm, h1]
      rw [e]
      refine (rgroups_ok (max K1 (max K2 K3)) A0 c0 l0 A1 c1 l1 a2 w _ _ _ _ hr0 hc0 hr1 hc1 (k1 _ (by omega)) (k2 _ (by omega)) (k3 _ (by omega)) (psteps _ _)).mono ?_
      rintro e w' ⟨v, rfl, B, hB, hb, w0, hd⟩
      rw [List.take_length] at hd
      exact ⟨v, rfl, ⟨B, w0, hB, hd⟩, hb⟩
    · have hnf : namedAll l1 = false := by simpa using hnm
      rw [hnf] at k2
      have e : GsE l0 l1 a2 = ([], 40) := by unfold GsE; rw [if_pos hv, if_neg hnm]
      rw [e]
      refine (rgroups_name (max K1 K2) A0 c0 l0 A1 c1 l1 a2 w _ hr0 hc0 hr1 hc1 (k1 _ (by omega)) (k2 _ (by omega))).mono ?_
      rintro e w' ⟨rfl, hb⟩
      exact ⟨_, rfl, rg_nil w w' hb⟩
  · have e : GsE l0 l1 a2 = ([], (VecE l0).2) := by unfold GsE; rw [if_neg hv]
    rw [e]
    refine (rgroups_bad K1 A0 c0 l0 A1 c1 l1 a2 w (VecE l0).1 (VecE l0).2 hr0 hc0 (k1 _ (Nat.le_refl _)) hv).mono ?_
    rintro e w' ⟨rfl, hb⟩
    exact ⟨_, rfl, rg_nil w w' hb⟩
theorem aggrGroups_any (hr0 : Kd.C k41 w A0 l0.length l0) (hc0 : l0.length ≤ c0) (hr1 : Kd.C Kd.string w A1 l1.length l1) (hc1 : l1.length ≤ c1) (hT : Tabs w) (hw : WfP l0) (hwn : WfN l1) (hn : l1.length < 8796093022208) :
    Calls Tryz.prog 10 #[.slice A0 l0.length c0, .slice A1 l1.length c1, .bool a2] w fun e w' => e = .returned (.bool true) ∧ Below w.heap.size w w' := by
  obtain ⟨K, hK⟩ := gask l0 l1 a2 hw hwn hn
  exact aggrGroups_walk K A0 c0 l0 A1 c1 l1 a2 _ _ w hr0 hc0 hr1 hc1 hT (hK K (Nat.le_refl _)) (groups_any A0 c0 l0 A1 c1 l1 a2 w hr0 hc0 hr1 hc1 hT hw hwn hn)
    (fun w1 hb => rgroups_any A0 c0 l0 A1 c1 l1 a2 w1 (Kd.C_below hr0 hb) hc0 (Kd.C_below hr1 hb) hc1 hw hwn hn)
end
end Go.Proofs.YtoncpeadbhgmaaaGreatDoor.G

set_option linter.unusedVariables false
set_option linter.unusedSimpArgs false
namespace Go.Proofs.YtoncpeadbhgmaaaGreatDoor.G
open Go.ChangeShapes Go.WideShapes Go.ChangeAt Go.RowKit Go.Proofs.YtoncpeadbhgmaaaGreatDoorW.PrintWords

/-- No part of the datum weighs more than the form's reach. -/
def Light {H : Type} (t : TypeId) (d : DataW H) : Prop := ∀ n, n ∈ d.weights Tryz.prog t → n ≤ 140737488351232
theorem weightsAll_mem {H : Type} {P : Program} {e : TypeId} {d : DataW H} {n : Nat} : ∀ {l : List (DataW H)}, d ∈ l → n ∈ d.weights P e → n ∈ DataW.weightsAll P e l
  | [], h, _ => by cases h
  | x :: l, h, hn => by
    simp only [DataW.weightsAll, List.mem_append]
    rcases List.mem_cons.1 h with rfl | h
    · exact .inl hn
    · exact .inr (weightsAll_mem h hn)
section
variable {H : Type} {enc : TypeId × Value → H} {w : World}
theorem c9 : Tryz.prog.cellsOf 9 = 1 := by kernel_rfl
theorem c89 : Tryz.prog.cellsOf 89 = 2 := by kernel_rfl
theorem by9 : Tryz.prog.bytesOf 9 = 16 := by kernel_rfl
theorem by89 : Tryz.prog.bytesOf 89 = 32 := by kernel_rfl

/-- A row of strings. -/
theorem rd_strings {fuel : Nat} {A : Option Addr} {len cap : Nat} {d : DataW H} {ps : List MemPlace} (h : DataW.trod enc Tryz.prog w 0 (fun _ => true) true fuel 23 [.slice A len cap] = some (d, ps)) :
    ∃ xs : List ByteArray, xs.length = len ∧ len ≤ cap ∧ Kd.string.C w A len xs ∧ (Light 23 d → len * 16 ≤ 140737488351232 ∧ ∀ x ∈ xs, x.size ≤ 140737488351232) := by
  rcases open_strings Tryz.underlying23 Tryz.underlying9 c9 h with ⟨hcs, _⟩ | ⟨a, l, c, ss, hcs, _, hl, hm, hlen, hx, hcell, _⟩
  · injection hcs with hcs _
    injection hcs with h1 h2 h3
    subst h1; subst h2; subst h3
    exact ⟨[], rfl, Nat.le_refl _, Kd.C_nil _ _, fun _ => ⟨by simp, by simp⟩⟩
  · injection hcs with hcs _
    injection hcs with h1 h2 h3
    subst h1; subst h2; subst h3
    simp only [if_true] at hlen
    have htl : (ss.take len).length = len := by rw [List.length_take]; omega
    refine ⟨ss.take len, htl, hl, ⟨htl, by simp [maxLen] at hm; omega, fun hp => ⟨a, rfl, fun j p hj => ⟨[.string p], rfl, rfl, fun i u hu => ?_⟩⟩⟩, fun hL => ⟨?_, fun x hxm => ?_⟩⟩
    · have hi : i = 0 := by
        have := (List.getElem?_eq_some_iff.1 hu).1
        simp at this; omega
      subst hi
      simp at hu
      subst hu
      have hjl : j < len := by
        have := (List.getElem?_eq_some_iff.1 hj).1
        omega
      rw [List.getElem?_take, if_pos hjl] at hj
      have := hcell j (by omega)
      have e : j * Kd.string.sz + 0 = j := by simp [Kd.string, Kd.scalar]
      rw [e, this, List.getD_eq_getElem?_getD, hj]; rfl
    · obtain ⟨hd, _⟩ := Prod.mk.inj hx
      have := hL ((strs (H := H) (ss.take len)).length * 16 + (strs (H := H) (ss.drop len)).length * 16) (by
        rw [hd]
        simp only [DataW.weights, Tryz.underlying23, by9]
        rw [← Nat.add_mul]
        exact List.mem_cons_self)
      simp [strs] at this
      omega
    · obtain ⟨hd, _⟩ := Prod.mk.inj hx
      refine hL x.size ?_
      rw [hd]
      simp only [DataW.weights, Tryz.underlying23]
      refine List.mem_cons_of_mem _ (List.mem_append_left _ (weightsAll_mem (d := .lit (.string x.data.toList)) ?_ ?_))
      · simp only [strs, List.mem_map]
        exact ⟨x, hxm, rfl⟩
      · rw [DataW.weights]
        exact List.mem_singleton.2 (by rw [Array.length_toList]; rfl)

theorem trod_str {n : Nat} {v : Value} {d : DataW H} {ps : List MemPlace} (h : DataW.trod enc Tryz.prog w 0 (fun _ => true) true n 9 [v] = some (d, ps)) : ∃ s : ByteArray, v = .string s ∧ d = .lit (.string s.data.toList) := by
  obtain ⟨s, hc, hx, _⟩ := DataW.trod_string Tryz.underlying9 h
  injection hc with hc _
  injection hx with hd _
  exact ⟨s, hc, hd⟩
/-- A row of labels. -/
theorem rd_labels {fuel : Nat} {A : Option Addr} {len cap : Nat} {d : DataW H} {ps : List MemPlace} (h : DataW.trod enc Tryz.prog w 0 (fun _ => true) true fuel 39 [.slice A len cap] = some (d, ps)) :
    ∃ xs : List S89, xs.length = len ∧ len ≤ cap ∧ k89.C w A len xs ∧ (Light 39 d → len * 32 ≤ 140737488351232 ∧ ∀ x ∈ xs, x.f0.size ≤ 140737488351232 ∧ x.f1.size ≤ 140737488351232) := by
  obtain ⟨f0, f1, hs, ho0, ho1, ht0, ht1⟩ : ∃ f0 f1 : Field, Tryz.prog.underlying 89 = some (.struct #[f0, f1]) ∧ f0.offset = 0 ∧ f1.offset = 1 ∧ f0.type = 9 ∧ f1.type = 9 := ⟨_, _, Tryz.underlying89, rfl, rfl, rfl, rfl⟩
  rcases Deep.open_slice_pairs Tryz.underlying39 hs c89 ho0 ho1 (by rw [ht0]; exact c9) (by rw [ht1]; exact c9) h with ⟨hcs, _⟩ | ⟨a, l, c, m, n, V0, V1, D0, D1, P0, P1, hcs, _, hl, hm, hmm, hx, hel⟩
  · injection hcs with hcs _
    injection hcs with h1 h2 h3
    subst h1; subst h2; subst h3
    exact ⟨[], rfl, Nat.le_refl _, Kd.C_nil _ _, fun _ => ⟨by simp, by simp⟩⟩
  · injection hcs with hcs _
    injection hcs with h1 h2 h3
    subst h1; subst h2; subst h3
    simp only [if_true] at hmm
    rw [ht0, ht1] at hel
    have hv : ∀ i, ∃ p : S89, i < len → V0 i = .string p.f0 ∧ V1 i = .string p.f1 ∧ D0 i = .lit (.string p.f0.data.toList) ∧ D1 i = .lit (.string p.f1.data.toList) := fun i => by
      by_cases hi : i < len
      · obtain ⟨_, _, g0, g1⟩ := hel i (by omega)
        obtain ⟨s0, e0, d0⟩ := trod_str g0
        obtain ⟨s1, e1, d1⟩ := trod_str g1
        exact ⟨⟨s0, s1⟩, fun _ => ⟨e0, e1, d0, d1⟩⟩
      · exact ⟨⟨ByteArray.empty, ByteArray.empty⟩, fun h => absurd h hi⟩
    obtain ⟨p, hp⟩ := Classical.axiomOfChoice hv
    have hgl : ((List.range len).map p).length = len := by simp
    refine ⟨(List.range len).map p, hgl, hl, ⟨hgl, by simp [maxLen] at hm; omega, fun _ => ⟨a, rfl, fun j q hj => ⟨[.string q.f0, .string q.f1], rfl, k89_of w q, fun i u hu => ?_⟩⟩⟩, fun hL => ⟨?_, fun x hxm => ?_⟩⟩
    · have hjl : j < len := by
        have := (List.getElem?_eq_some_iff.1 hj).1
        simpa using this
      have hq : p j = q := by
        rw [List.getElem?_map, List.getElem?_range hjl] at hj
        exact Option.some.inj hj
      obtain ⟨e0, e1, _⟩ := hp j hjl
      obtain ⟨x0, x1, _⟩ := hel j (by omega)
      match i, hu with
      | 0, hu =>
        have hu' : Value.string q.f0 = u := Option.some.inj hu
        subst hu'
        rw [e0, hq] at x0
        exact x0
      | 1, hu =>
        have hu' : Value.string q.f1 = u := Option.some.inj hu
        subst hu'
        rw [e1, hq] at x1
        exact x1
    · obtain ⟨hd, _⟩ := Prod.mk.inj hx
      have := hL _ (by
        rw [hd]
        simp only [DataW.weights, Tryz.underlying39, by89]
        exact List.mem_cons_self)
      simp at this
      omega
    · obtain ⟨j, hj, rfl⟩ := List.mem_map.1 hxm
      have hjl : j < len := List.mem_range.1 hj
      obtain ⟨_, _, d0, d1⟩ := hp j hjl
      obtain ⟨hd, _⟩ := Prod.mk.inj hx
      have hin : ∀ n, n ∈ DataW.weights Tryz.prog 89 (.agg [D0 j, D1 j] : DataW H) → n ≤ 140737488351232 := fun n hn => hL n (by
        rw [hd]
        simp only [DataW.weights, Tryz.underlying39]
        exact List.mem_cons_of_mem _ (List.mem_append_left _ (weightsAll_mem (d := .agg [D0 j, D1 j]) (List.mem_map.2 ⟨j, hj, rfl⟩) hn)))
      have hw : DataW.weights Tryz.prog 89 (.agg [D0 j, D1 j] : DataW H) = DataW.weights Tryz.prog 9 (D0 j) ++ (DataW.weights Tryz.prog 9 (D1 j) ++ []) := by
        rw [DataW.weights]
        simp only [hs]
        show DataW.weightsEach Tryz.prog [f0.type, f1.type] [D0 j, D1 j] = _
        rw [ht0, ht1]
        rfl
      rw [hw, d0, d1] at hin
      refine ⟨hin _ (List.mem_append_left _ ?_), hin _ (List.mem_append_right _ (List.mem_append_left _ ?_))⟩
      · rw [DataW.weights]
        exact List.mem_singleton.2 (by rw [Array.length_toList]; rfl)
      · rw [DataW.weights]
        exact List.mem_singleton.2 (by rw [Array.length_toList]; rfl)
end
end Go.Proofs.YtoncpeadbhgmaaaGreatDoor.G

set_option linter.unusedVariables false
set_option linter.unusedSimpArgs false
namespace Go.Proofs.YtoncpeadbhgmaaaGreatDoor.G
open Go.ChangeShapes Go.WideShapes Go.ChangeAt Go.RowKit Go.Proofs.YtoncpeadbhgmaaaGreatDoorW.PrintWords
section
variable {H : Type} {enc : TypeId × Value → H} {w : World}
theorem c41 : Tryz.prog.cellsOf 41 = 2 := by kernel_rfl
theorem c39 : Tryz.prog.cellsOf 39 = 1 := by kernel_rfl
theorem c34 : Tryz.prog.cellsOf 34 = 1 := by kernel_rfl
theorem by41 : Tryz.prog.bytesOf 41 = 32 := by kernel_rfl
set_option maxRecDepth 100000 in
theorem trod_f64 {n : Nat} {v : Value} {x : DataW H × List MemPlace} (h : DataW.trod enc Tryz.prog w 0 (fun _ => true) true n 34 [v] = some x) : ∃ b : Nat, v = .float .f64 b := by
  cases n with
  | zero => simp [DataW.trod] at h
  | succ n =>
    unfold DataW.trod at h
    have hu := Tryz.underlying34
    cases v with
    | float k b => cases k with
      | f64 => exact ⟨b, rfl⟩
      | f32 => simp [hu] at h
    | _ => simp [hu] at h
theorem trod_sl39 {n : Nat} {v : Value} {x : DataW H × List MemPlace} (h : DataW.trod enc Tryz.prog w 0 (fun _ => true) true n 39 [v] = some x) : ∃ A len cap, v = .slice A len cap := by
  rcases DataW.trod_slice Tryz.underlying39 h with ⟨hc, _⟩ | ⟨a, len, cap, _, _, _, _, hc, _⟩
  · injection hc with hc _
    exact ⟨_, _, _, hc⟩
  · injection hc with hc _
    exact ⟨_, _, _, hc⟩
/-- A row of points. -/
theorem rd_points {fuel : Nat} {A : Option Addr} {len cap : Nat} {d : DataW H} {ps : List MemPlace} (h : DataW.trod enc Tryz.prog w 0 (fun _ => true) true fuel 22 [.slice A len cap] = some (d, ps)) :
    ∃ xs : List S41, xs.length = len ∧ len ≤ cap ∧ k41.C w A len xs ∧ (Light 22 d → len * 32 ≤ 140737488351232 ∧ ∀ p ∈ xs, ∀ x ∈ p.f0, x.f0.size ≤ 140737488351232 ∧ x.f1.size ≤ 140737488351232) := by
  obtain ⟨f0, f1, hs, ho0, ho1, ht0, ht1⟩ : ∃ f0 f1 : Field, Tryz.prog.underlying 41 = some (.struct #[f0, f1]) ∧ f0.offset = 0 ∧ f1.offset = 1 ∧ f0.type = 39 ∧ f1.type = 34 := ⟨_, _, Tryz.underlying41, rfl, rfl, rfl, rfl⟩
  rcases Deep.open_slice_pairs Tryz.underlying22 hs c41 ho0 ho1 (by rw [ht0]; exact c39) (by rw [ht1]; exact c34) h with ⟨hcs, _⟩ | ⟨a, l, c, m, n, V0, V1, D0, D1, P0, P1, hcs, _, hl, hm, hmm, hx, hel⟩
  · injection hcs with hcs _
    injection hcs with h1 h2 h3
    subst h1; subst h2; subst h3
    exact ⟨[], rfl, Nat.le_refl _, Kd.C_nil _ _, fun _ => ⟨by simp, by simp⟩⟩
  · injection hcs with hcs _
    injection hcs with h1 h2 h3
    subst h1; subst h2; subst h3
    simp only [if_true] at hmm
    rw [ht0, ht1] at hel
    have hv : ∀ i, ∃ p : S41, i < len → (∃ Ai ci, V0 i = .slice Ai p.f0.length ci ∧ p.f0.length ≤ ci ∧ k89.C w Ai p.f0.length p.f0) ∧ V1 i = .float .f64 p.f1 ∧ (Light 39 (D0 i) → ∀ x ∈ p.f0, x.f0.size ≤ 140737488351232 ∧ x.f1.size ≤ 140737488351232) := fun i => by
      by_cases hi : i < len
      · obtain ⟨_, _, g0, g1⟩ := hel i (by omega)
        obtain ⟨Ai, li, ci, e0⟩ := trod_sl39 g0
        rw [e0] at g0
        obtain ⟨xs, hxl, hxc, hxC, hxS⟩ := rd_labels g0
        obtain ⟨b, e1⟩ := trod_f64 g1
        subst hxl
        exact ⟨⟨xs, b⟩, fun _ => ⟨⟨Ai, ci, e0, hxc, hxC⟩, e1, fun hL => (hxS hL).2⟩⟩
      · exact ⟨⟨[], 0⟩, fun h => absurd h hi⟩
    obtain ⟨p, hp⟩ := Classical.axiomOfChoice hv
    have hgl : ((List.range len).map p).length = len := by simp
    refine ⟨(List.range len).map p, hgl, hl, ⟨hgl, by simp [maxLen] at hm; omega, fun _ => ⟨a, rfl, fun j q hj => ?_⟩⟩, fun hL => ⟨?_, fun q hqm => ?_⟩⟩
    · have hjl : j < len := by
        have := (List.getElem?_eq_some_iff.1 hj).1
        simpa using this
      have hq : p j = q := by
        rw [List.getElem?_map, List.getElem?_range hjl] at hj
        exact Option.some.inj hj
      obtain ⟨⟨Ai, ci, e0, hc, hC⟩, e1, _⟩ := hp j hjl
      obtain ⟨x0, x1, _⟩ := hel j (by omega)
      rw [hq] at e0 e1 hc hC
      refine ⟨[.slice Ai q.f0.length ci, .float .f64 q.f1], rfl, k41_mk w q hc hC, fun i u hu => ?_⟩
      match i, hu with
      | 0, hu =>
        have hu' : Value.slice Ai q.f0.length ci = u := Option.some.inj hu
        subst hu'
        rw [e0] at x0
        exact x0
      | 1, hu =>
        have hu' : Value.float .f64 q.f1 = u := Option.some.inj hu
        subst hu'
        rw [e1] at x1
        exact x1
    · obtain ⟨hd, _⟩ := Prod.mk.inj hx
      have := hL _ (by
        rw [hd]
        simp only [DataW.weights, Tryz.underlying22, by41]
        exact List.mem_cons_self)
      simp at this
      omega
    · obtain ⟨j, hj, rfl⟩ := List.mem_map.1 hqm
      have hjl : j < len := List.mem_range.1 hj
      obtain ⟨_, _, hS⟩ := hp j hjl
      obtain ⟨hd, _⟩ := Prod.mk.inj hx
      have hin : ∀ n, n ∈ DataW.weights Tryz.prog 41 (.agg [D0 j, D1 j] : DataW H) → n ≤ 140737488351232 := fun n hn => hL n (by
        rw [hd]
        simp only [DataW.weights, Tryz.underlying22]
        exact List.mem_cons_of_mem _ (List.mem_append_left _ (weightsAll_mem (d := .agg [D0 j, D1 j]) (List.mem_map.2 ⟨j, hj, rfl⟩) hn)))
      have hw : DataW.weights Tryz.prog 41 (.agg [D0 j, D1 j] : DataW H) = DataW.weights Tryz.prog 39 (D0 j) ++ (DataW.weights Tryz.prog 34 (D1 j) ++ []) := by
        rw [DataW.weights]
        simp only [hs]
        show DataW.weightsEach Tryz.prog [f0.type, f1.type] [D0 j, D1 j] = _
        rw [ht0, ht1]
        rfl
      rw [hw] at hin
      exact hS (fun n hn => hin n (List.mem_append_left _ hn))
end
end Go.Proofs.YtoncpeadbhgmaaaGreatDoor.G

set_option linter.unusedVariables false
set_option linter.unusedSimpArgs false
namespace Go.Proofs.YtoncpeadbhgmaaaGreatDoor.G
open Go.ChangeShapes Go.WideShapes Go.ChangeAt Go.RowKit Go.Shelf Go.Lib Go.Proofs.YtoncpeadbhgmaaaGreatDoorW.PrintWords

theorem light_first {H : Type} {t : TypeId} {ts : List TypeId} {d : DataW H} {ds : List (DataW H)} (h : (DataW.weightsEach Tryz.prog (t :: ts) (d :: ds)).all (· ≤ reachBytes) = true) : Light t d ∧ (DataW.weightsEach Tryz.prog ts ds).all (· ≤ reachBytes) = true := by
  simp only [DataW.weightsEach, List.all_append, Bool.and_eq_true] at h
  refine ⟨fun n hn => ?_, h.2⟩
  have : n ≤ reachBytes := of_decide_eq_true (List.all_eq_true.1 h.1 n hn)
  simpa [reachBytes] using this
end Go.Proofs.YtoncpeadbhgmaaaGreatDoor.G

