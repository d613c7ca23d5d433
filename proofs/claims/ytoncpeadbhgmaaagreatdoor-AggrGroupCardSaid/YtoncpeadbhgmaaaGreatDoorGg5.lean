/- Parts of the proof of AggrGroup. -/
import Derived.ArgAppend
import Derived.Below
import Derived.BigQuiet
import Derived.ChangeArms
import Derived.Deep.AppendLies
import Derived.Deep.CutBlock
import Derived.Deep.DeepCutAuto
import Derived.Deep.Draws
import Derived.Deep.LoopGhost
import Derived.Deep.OwnRows
import Derived.Deep.QuietTactic
import Derived.Deep.RegionHeld3
import Derived.Deep.SlicePairs
import Derived.Ground.NamesProg
import Derived.Ground.SlsfProg
import Derived.IntWalk
import Derived.KernelRfl
import Derived.Laws.BitsLemmas
import Derived.Laws.BytesArg
import Derived.Laws.Externs
import Derived.Laws.FloatArith
import Derived.Laws.IdiomCopy
import Derived.Laws.MakeOwn
import Derived.Laws.OwnMore
import Derived.Laws.Rows
import Derived.Laws.Slices
import Derived.Laws.StructEq
import Derived.Lib.AppendStr
import Derived.Lib.ConvBytes
import Derived.Lib.TrimUEq
import Derived.Lib.ValidLaws
import Derived.Maps.AppendAt
import Derived.Maps.OwnOps
import Derived.Maps.OwnSet
import Derived.Maps.Views
import Derived.OpenShut
import Derived.OrdersHeld
import Derived.Outline
import Derived.OwnWalk
import Derived.ProofKit
import Derived.RowKit
import Derived.RowKit3
import Derived.Shelf.Bits.Mul64
import Derived.Shelf.SlSortCmp.NoneTotal
import Derived.Shelf.Small.Strs
import Derived.Shelf.Strings.Search1
import Derived.Shelf.Unicode.ValidAny
import Derived.SliceStrings
import Derived.Sort.Grow
import Derived.Tactics
import Derived.Test.YtoncpeadbhgmaaaGreatDoorGg0
import Derived.Test.YtoncpeadbhgmaaaGreatDoorGg1
import Derived.Test.YtoncpeadbhgmaaaGreatDoorGg3
import Derived.Test.YtoncpeadbhgmaaaGreatDoorGg4
import Derived.Test.YtoncpeadbhgmaaaGreatDoorProg
import Derived.WalkKit
import Derived.WalkSpells
import Derived.WideLaws
namespace Go.Proofs
open Go.Shelf
def Tryz.sortPoint_ren : Go.Shelf.Ren := ⟨fun | 6 => 75 | 15 => 127 | 14 => 126 | 28 => 184 | 29 => 185 | 20 => 176 | 21 => 177 | 22 => 178 | 23 => 179 | 24 => 180 | 25 => 181 | 26 => 182 | 27 => 183 | 46 => 216 | 47 => 217 | 48 => 218 | 49 => 219 | 50 => 220 | 57 => 248 | n => n, fun | 22 => 22 | 24 => 41 | 25 => 99 | 3 => 3 | 39 => 144 | 0 => 0 | 53 => 180 | 55 => 83 | 4 => 4 | 46 => 174 | 45 => 173 | 50 => 112 | 5 => 5 | 9 => 9 | 66 => 198 | 70 => 202 | 76 => 223 | 77 => 224 | n => n, fun | n => n⟩
theorem Tryz.sortPoint : Go.Proofs.SlLaysF0.n6 Tryz.prog Tryz.sortPoint_ren := {
  mixed := by kernel_rfl
  f6 := ⟨Tryz.f75.name, by decide, Tryz.func75.trans (congrArg some (by kernel_rfl))⟩
  f14 := ⟨Tryz.f126.name, by decide, Tryz.func126.trans (congrArg some (by kernel_rfl))⟩
  f15 := Tryz.func127.trans (congrArg some (by kernel_rfl))
  f20 := ⟨Tryz.f176.name, by decide, Tryz.func176.trans (congrArg some (by kernel_rfl))⟩
  f21 := ⟨Tryz.f177.name, by decide, Tryz.func177.trans (congrArg some (by kernel_rfl))⟩
  f22 := ⟨Tryz.f178.name, by decide, Tryz.func178.trans (congrArg some (by kernel_rfl))⟩
  f23 := ⟨Tryz.f179.name, by decide, Tryz.func179.trans (congrArg some (by kernel_rfl))⟩
  f24 := ⟨Tryz.f180.name, by decide, Tryz.func180.trans (congrArg some (by kernel_rfl))⟩
  f25 := ⟨Tryz.f181.name, by decide, Tryz.func181.trans (congrArg some (by kernel_rfl))⟩
  f26 := ⟨Tryz.f182.name, by decide, Tryz.func182.trans (congrArg some (by kernel_rfl))⟩
  f27 := ⟨Tryz.f183.name, by decide, Tryz.func183.trans (congrArg some (by kernel_rfl))⟩
  f28 := Tryz.func184.trans (congrArg some (by kernel_rfl))
  f29 := Tryz.func185.trans (congrArg some (by kernel_rfl))
  f46 := ⟨Tryz.f216.name, by decide, Tryz.func216.trans (congrArg some (by kernel_rfl))⟩
  f47 := Tryz.func217.trans (congrArg some (by kernel_rfl))
  f48 := Tryz.func218.trans (congrArg some (by kernel_rfl))
  f49 := ⟨Tryz.f219.name, by decide, Tryz.func219.trans (congrArg some (by kernel_rfl))⟩
  f50 := ⟨Tryz.f220.name, by decide, Tryz.func220.trans (congrArg some (by kernel_rfl))⟩
  f57 := ⟨Tryz.f248.name, by decide, Tryz.func248.trans (congrArg some (by kernel_rfl))⟩
  t0 := Tryz.underlying0
  a0 := Tryz.isAgg0
  z0 := Tryz.sizeOf0
  v0 := Tryz.zeroValue0
  t3 := Tryz.underlying3
  a3 := Tryz.isAgg3
  z3 := Tryz.sizeOf3
  v3 := Tryz.zeroValue3
  t4 := Tryz.underlying4
  a4 := Tryz.isAgg4
  z4 := Tryz.sizeOf4
  v4 := Tryz.zeroValue4
  t5 := Tryz.underlying5
  a5 := Tryz.isAgg5
  z5 := Tryz.sizeOf5
  v5 := Tryz.zeroValue5
  t9 := Tryz.underlying9
  a9 := Tryz.isAgg9
  z9 := Tryz.sizeOf9
  v9 := Tryz.zeroValue9
  t22 := Tryz.underlying22
  a22 := Tryz.isAgg22
  z22 := Tryz.sizeOf22
  v22 := Tryz.zeroValue22
  t25 := Tryz.underlying99
  a25 := Tryz.isAgg99
  z25 := Tryz.sizeOf99
  v25 := Tryz.zeroValue99
  t39 := Tryz.underlying144
  a39 := Tryz.isAgg144
  z39 := Tryz.sizeOf144
  v39 := Tryz.zeroValue144
  t45 := Tryz.underlying173
  a45 := Tryz.isAgg173
  z45 := Tryz.sizeOf173
  v45 := Tryz.zeroValue173
  t46 := Tryz.underlying174
  a46 := Tryz.isAgg174
  z46 := Tryz.sizeOf174
  v46 := Tryz.zeroValue174
  t50 := Tryz.underlying112
  a50 := Tryz.isAgg112
  z50 := Tryz.sizeOf112
  v50 := Tryz.zeroValue112
  t53 := Tryz.underlying180
  a53 := Tryz.isAgg180
  z53 := Tryz.sizeOf180
  v53 := Tryz.zeroValue180
  t55 := Tryz.underlying83
  a55 := Tryz.isAgg83
  z55 := Tryz.sizeOf83
  v55 := Tryz.zeroValue83
  t66 := Tryz.underlying198
  a66 := Tryz.isAgg198
  z66 := Tryz.sizeOf198
  v66 := Tryz.zeroValue198
  t70 := Tryz.underlying202
  a70 := Tryz.isAgg202
  z70 := Tryz.sizeOf202
  v70 := Tryz.zeroValue202
  t76 := Tryz.underlying223
  a76 := Tryz.isAgg223
  z76 := Tryz.sizeOf223
  v76 := Tryz.zeroValue223
  t77 := Tryz.underlying224
  a77 := Tryz.isAgg224
  z77 := Tryz.sizeOf224
  v77 := Tryz.zeroValue224 }
def Tryz.sortInt_ren : Go.Shelf.Ren := ⟨fun | 6 => 87 | 15 => 127 | 14 => 145 | 28 => 184 | 29 => 185 | 20 => 191 | 21 => 192 | 22 => 193 | 23 => 194 | 24 => 195 | 25 => 196 | 26 => 197 | 27 => 198 | 46 => 224 | 47 => 217 | 48 => 218 | 49 => 225 | 50 => 226 | 57 => 253 | n => n, fun | 22 => 113 | 24 => 3 | 25 => 115 | 3 => 3 | 39 => 144 | 0 => 0 | 53 => 180 | 55 => 83 | 4 => 4 | 46 => 174 | 45 => 173 | 50 => 112 | 5 => 5 | 9 => 9 | 66 => 198 | 70 => 202 | 76 => 223 | 77 => 224 | n => n, fun | n => n⟩
theorem Tryz.sortInt : Go.Proofs.SlLaysF.n6 Tryz.prog Tryz.sortInt_ren := {
  mixed := by kernel_rfl
  f6 := ⟨Tryz.f87.name, by decide, Tryz.func87.trans (congrArg some (by kernel_rfl))⟩
  f14 := ⟨Tryz.f145.name, by decide, Tryz.func145.trans (congrArg some (by kernel_rfl))⟩
  f15 := Tryz.func127.trans (congrArg some (by kernel_rfl))
  f20 := ⟨Tryz.f191.name, by decide, Tryz.func191.trans (congrArg some (by kernel_rfl))⟩
  f21 := ⟨Tryz.f192.name, by decide, Tryz.func192.trans (congrArg some (by kernel_rfl))⟩
  f22 := ⟨Tryz.f193.name, by decide, Tryz.func193.trans (congrArg some (by kernel_rfl))⟩
  f23 := ⟨Tryz.f194.name, by decide, Tryz.func194.trans (congrArg some (by kernel_rfl))⟩
  f24 := ⟨Tryz.f195.name, by decide, Tryz.func195.trans (congrArg some (by kernel_rfl))⟩
  f25 := ⟨Tryz.f196.name, by decide, Tryz.func196.trans (congrArg some (by kernel_rfl))⟩
  f26 := ⟨Tryz.f197.name, by decide, Tryz.func197.trans (congrArg some (by kernel_rfl))⟩
  f27 := ⟨Tryz.f198.name, by decide, Tryz.func198.trans (congrArg some (by kernel_rfl))⟩
  f28 := Tryz.func184.trans (congrArg some (by kernel_rfl))
  f29 := Tryz.func185.trans (congrArg some (by kernel_rfl))
  f46 := ⟨Tryz.f224.name, by decide, Tryz.func224.trans (congrArg some (by kernel_rfl))⟩
  f47 := Tryz.func217.trans (congrArg some (by kernel_rfl))
  f48 := Tryz.func218.trans (congrArg some (by kernel_rfl))
  f49 := ⟨Tryz.f225.name, by decide, Tryz.func225.trans (congrArg some (by kernel_rfl))⟩
  f50 := ⟨Tryz.f226.name, by decide, Tryz.func226.trans (congrArg some (by kernel_rfl))⟩
  f57 := ⟨Tryz.f253.name, by decide, Tryz.func253.trans (congrArg some (by kernel_rfl))⟩
  t0 := Tryz.underlying0
  a0 := Tryz.isAgg0
  z0 := Tryz.sizeOf0
  v0 := Tryz.zeroValue0
  t3 := Tryz.underlying3
  a3 := Tryz.isAgg3
  z3 := Tryz.sizeOf3
  v3 := Tryz.zeroValue3
  t4 := Tryz.underlying4
  a4 := Tryz.isAgg4
  z4 := Tryz.sizeOf4
  v4 := Tryz.zeroValue4
  t5 := Tryz.underlying5
  a5 := Tryz.isAgg5
  z5 := Tryz.sizeOf5
  v5 := Tryz.zeroValue5
  t9 := Tryz.underlying9
  a9 := Tryz.isAgg9
  z9 := Tryz.sizeOf9
  v9 := Tryz.zeroValue9
  t22 := Tryz.underlying113
  a22 := Tryz.isAgg113
  z22 := Tryz.sizeOf113
  v22 := Tryz.zeroValue113
  a24 := Tryz.isAgg3
  z24 := Tryz.sizeOf3
  t25 := Tryz.underlying115
  a25 := Tryz.isAgg115
  z25 := Tryz.sizeOf115
  v25 := Tryz.zeroValue115
  t39 := Tryz.underlying144
  a39 := Tryz.isAgg144
  z39 := Tryz.sizeOf144
  v39 := Tryz.zeroValue144
  t45 := Tryz.underlying173
  a45 := Tryz.isAgg173
  z45 := Tryz.sizeOf173
  v45 := Tryz.zeroValue173
  t46 := Tryz.underlying174
  a46 := Tryz.isAgg174
  z46 := Tryz.sizeOf174
  v46 := Tryz.zeroValue174
  t50 := Tryz.underlying112
  a50 := Tryz.isAgg112
  z50 := Tryz.sizeOf112
  v50 := Tryz.zeroValue112
  t53 := Tryz.underlying180
  a53 := Tryz.isAgg180
  z53 := Tryz.sizeOf180
  v53 := Tryz.zeroValue180
  t55 := Tryz.underlying83
  a55 := Tryz.isAgg83
  z55 := Tryz.sizeOf83
  v55 := Tryz.zeroValue83
  t66 := Tryz.underlying198
  a66 := Tryz.isAgg198
  z66 := Tryz.sizeOf198
  v66 := Tryz.zeroValue198
  t70 := Tryz.underlying202
  a70 := Tryz.isAgg202
  z70 := Tryz.sizeOf202
  v70 := Tryz.zeroValue202
  t76 := Tryz.underlying223
  a76 := Tryz.isAgg223
  z76 := Tryz.sizeOf223
  v76 := Tryz.zeroValue223
  t77 := Tryz.underlying224
  a77 := Tryz.isAgg224
  z77 := Tryz.sizeOf224
  v77 := Tryz.zeroValue224 }
end Go.Proofs

set_option linter.unusedVariables false
set_option linter.unusedSimpArgs false
namespace Go.Proofs.YtoncpeadbhgmaaaGreatDoor.G
open Go.RowKit Go.Sort Go.Shelf Go.Proofs.YtoncpeadbhgmaaaGreatDoorW.PrintWords Go.Proofs.YtoncpeadbhgmaaaGreatDoorW.PrintLast Go.Proofs.YtoncpeadbhgmaaaGreatDoorW.PrintMore

def cmpPt (x y : S41) : Int := cmpLs x.f0 y.f0
/-- What holds of a row however it was sorted: one answer behind all of them. -/
noncomputable def sortAll {A β : Type} (c : A → A → Int) (xs : List A) (k : List A → Option β) : Option β :=
  open Classical in if h : xs.length < 4611686018427387904 ∧ (∃ ys : List A, ys.Perm xs ∧ ys.Pairwise fun a b => ¬ c b a < 0) ∧ ∃ r, ∀ ys : List A, ys.Perm xs → (ys.Pairwise fun a b => ¬ c b a < 0) → k ys = some r then some h.2.2.choose else none
theorem sortAll_len {A β : Type} {c : A → A → Int} {xs : List A} {k : List A → Option β} {r : β} (h : sortAll c xs k = some r) : xs.length < 4611686018427387904 := by
  unfold sortAll at h
  split at h
  · rename_i h0; exact h0.1
  · cases h
theorem sortAll_some {A β : Type} {c : A → A → Int} {xs : List A} {k : List A → Option β} {r : β} (h : sortAll c xs k = some r) (ys : List A) (hp : ys.Perm xs) (hs : ys.Pairwise fun a b => ¬ c b a < 0) : k ys = some r := by
  unfold sortAll at h
  split at h
  · rename_i h0
    obtain rfl := Option.some.inj h
    exact h0.2.2.choose_spec ys hp hs
  · cases h
theorem sortAll_eq {A β : Type} {c : A → A → Int} {xs : List A} {k : List A → Option β} {r : β} (hl : xs.length < 4611686018427387904) (he : ∃ ys : List A, ys.Perm xs ∧ ys.Pairwise fun a b => ¬ c b a < 0) (h : ∀ ys : List A, ys.Perm xs → (ys.Pairwise fun a b => ¬ c b a < 0) → k ys = some r) : sortAll c xs k = some r := by
  have h0 : xs.length < 4611686018427387904 ∧ (∃ ys : List A, ys.Perm xs ∧ ys.Pairwise fun a b => ¬ c b a < 0) ∧ ∃ r, ∀ ys : List A, ys.Perm xs → (ys.Pairwise fun a b => ¬ c b a < 0) → k ys = some r := ⟨hl, he, r, h⟩
  unfold sortAll
  rw [dif_pos h0]
  obtain ⟨ys, hp, hs⟩ := he
  have h1 := h0.2.2.choose_spec ys hp hs
  rw [h ys hp hs] at h1
  exact h1.symm
theorem sortAll_mono {A β : Type} {c : A → A → Int} {xs : List A} {k k' : List A → Option β} (h : ∀ ys, LeO (k ys) (k' ys)) : LeO (sortAll c xs k) (sortAll c xs k') := by
  intro r hr
  have h0 := hr
  unfold sortAll at h0
  split at h0
  · rename_i h1
    exact sortAll_eq h1.1 h1.2.1 (fun ys hp hs => h ys r (sortAll_some hr ys hp hs))
  · cases h0

set_option maxHeartbeats 1000000 in
set_option maxRecDepth 100000 in
/-- The closure of vec.Vector. -/
theorem vecLess_calls (x y : S41) (cx cy : List Value) (w : World) (hx : k41.K w x cx) (hy : k41.K w y cy) :
    Calls Tryz.prog 76 #[.agg cx.toArray, .agg cy.toArray] w fun e w' => e = .returned (.int .i64 (cmpPt x y)) ∧ Grew w w' := by
  obtain ⟨A0, c0, rfl, h0, g0⟩ := k41_open hx
  obtain ⟨A1, c1, rfl, h1, g1⟩ := k41_open hy
  clear hx hy
  have c := compare_grew A0 c0 x.f0 A1 c1 y.f0 _ (Kd.C_alloc (Kd.C_alloc g0 (.cells #[.slice A0 x.f0.length c0, .float .f64 x.f1] 41)) (.cells #[.slice A1 y.f0.length c1, .float .f64 y.f1] 41)) (Kd.C_alloc (Kd.C_alloc g1 (.cells #[.slice A0 x.f0.length c0, .float .f64 x.f1] 41)) (.cells #[.slice A1 y.f0.length c1, .float .f64 y.f1] 41))
  change Calls _ _ _ _ (fun e w' => e = .returned (.int .i64 (cmpPt x y)) ∧ _) at c
  generalize cmpPt x y = r at c ⊢
  go_enter Tryz.func76, Tryz.ntmps76
  go_wp2_with fail
  refine c.mono ?_
  rintro e w' ⟨rfl, hg⟩
  go_wp2
  go_ret
  exact ⟨rfl, (((Grew.refl _).alloc _).alloc _).trans hg⟩

/-- slices.SortFunc in vec.Vector. -/
theorem sortPt_calls (base : Nat) (ok : Nat → Prop) (v : Value) (xs : List S41) (W : World) (ho : k41.R 41 W base ok v xs) (hl : xs.length < 4611686018427387904) :
    Calls Tryz.prog 75 #[v, .func (.func 76) #[] #[]] W fun e' w' => e' = .returned (.tuple #[]) ∧ ∃ ys : List S41, ys.Perm xs ∧ (ys.Pairwise fun a b => ¬ cmpPt b a < 0) ∧ k41.R 41 w' base ok v ys ∧ SortKept W w' v :=
  sort_rows k41 Tryz.sortPoint Tryz.isAgg41 Tryz.sizeOf41 cmpPt cmpPt_swo 76 #[] (enters_of Tryz.func76 (by kernel_rfl) rfl) 41 base ok v xs W ho hl
    (fun W' x y cx cy _ hx hy => by simpa using vecLess_calls x y cx cy W' hx hy)
end Go.Proofs.YtoncpeadbhgmaaaGreatDoor.G

set_option linter.unusedVariables false
set_option linter.unusedSimpArgs false
namespace Go.Proofs.YtoncpeadbhgmaaaGreatDoor.G
open Go.RowKit Go.Sort Go.Maps Go.Proofs.YtoncpeadbhgmaaaGreatDoorW.PrintWords

def litI (i : Int) : DataW Unit := .lit (.int .i64 i)
/-- Block mp is a map of at most n entries: each string of ks to its index. -/
def IMap (w : World) (mp n : Nat) (ks : List (List UInt8)) : Prop :=
  ∃ D : DataW Unit, w.ownsMap Tryz.prog 9 (plainElem Tryz.prog 3) mp n D ∧ IsMap D ∧ (∀ s : List UInt8, has D (.string s) = decide (s ∈ ks)) ∧ ∀ s : List UInt8, D.atKey (.string s) (litI 0) = litI (if s ∈ ks then (ks.idxOf s : Int) else 0)
theorem imap_made (w : World) : IMap (w.alloc (.map #[] 0)) w.heap.size 0 [] :=
  ⟨.map [], World.ownsMap_made _ _ _ _, isMap_empty, fun s => by simp [has], fun s => by simp [DataW.atKey]⟩
theorem imap_kept {w w' : World} {mp n : Nat} {ks : List (List UInt8)} {row : Option Nat} (h : IMap w mp n ks) (hg : w.grownBy w' row) (hne : some mp ≠ row) : IMap w' mp n ks := by
  obtain ⟨D, h1, h2⟩ := h
  exact ⟨D, h1.kept hg hne, h2⟩
theorem imap_block {w : World} {mp n : Nat} {ks : List (List UInt8)} (h : IMap w mp n ks) : ∃ es clock, w.heap[mp]? = some (.map es clock) := by
  obtain ⟨D, ⟨es, clock, hb, _⟩, h2⟩ := h
  exact ⟨es, clock, hb⟩
theorem zero3 (w : World) : (zeroValue 3).run Tryz.prog w = .ok (.int .i64 0) w := by kernel_rfl
theorem litI_inj {a b : Int} (h : litI a = litI b) : a = b := by
  unfold litI at h; injection h with h; injection h
theorem imap_look {w : World} {mp n : Nat} {ks : List (List UInt8)} (h : IMap w mp n ks) (s : ByteArray) (hs : s.size ≤ maxLen) :
    (Instr.lookup 107 (.map (some mp)) (.string s) true).run Tryz.prog w = .ok (.tuple #[.int .i64 (if s.data.toList ∈ ks then (ks.idxOf s.data.toList : Int) else 0), .bool (decide (s.data.toList ∈ ks))]) w := by
  obtain ⟨D, h1, h2, h3, h4⟩ := h
  obtain ⟨v, ps, hrun, hv⟩ := h1.look_ok (string_keyed Tryz.underlying9) Tryz.underlying107 (zero3 w) (zd := litI 0) (zp := []) (plainElem_int Tryz.underlying3 (by decide)) (WideMaps.keyOf_string_mk (P := Tryz.prog) Tryz.underlying9 hs)
  obtain ⟨a, rfl, hz, _⟩ := plainElem_int_inv Tryz.underlying3 hv
  simp only [Prod.mk.injEq] at hz
  have e := litI_inj ((h4 _).symm.trans hz.1)
  rw [hrun, e, h3]
theorem idxOf_snoc (ks : List (List UInt8)) (s t : List UInt8) (hs : s ∉ ks) : (if t ∈ ks ++ [s] then ((ks ++ [s]).idxOf t : Int) else 0) = if t = s then (ks.length : Int) else if t ∈ ks then (ks.idxOf t : Int) else 0 := by
  by_cases h : t = s
  · subst h
    simp [List.idxOf_append, hs]
  · by_cases h2 : t ∈ ks
    · simp [List.idxOf_append, h, h2]
    · simp [h, h2]
theorem key_lit (s : List UInt8) : WideAt.IsKeyLit (.string s) := by simp [WideAt.IsKeyLit]
theorem imap_store {w : World} {mp n : Nat} {ks : List (List UInt8)} (h : IMap w mp n ks) (hn : n < maxLen) (s : ByteArray) (hs : s.size ≤ maxLen) (hne : s.data.toList ∉ ks) (hl : (ks.length : Int) ≤ 9223372036854775807) :
    ∃ w', (Instr.mapUpdate 107 (.map (some mp)) (.string s) (.int .i64 ks.length)).run Tryz.prog w = .ok () w' ∧ IMap w' mp (n + 1) (ks ++ [s.data.toList]) ∧ w.grownBy w' (some mp) := by
  obtain ⟨D, h1, h2, h3, h4⟩ := h
  have hwf : (Lit.int .i64 (ks.length : Int)).wf = true := by
    have e1 : IntKind.i64.min = -9223372036854775808 := by decide
    have e2 : IntKind.i64.max = 9223372036854775807 := by decide
    simp only [Lit.wf, e1, e2, Bool.and_eq_true, decide_eq_true_eq]; omega
  obtain ⟨w', hrun, ho, hg⟩ := h1.update (string_keyed Tryz.underlying9) Tryz.underlying107 hn (val := .int .i64 ks.length) (d := litI ks.length) (ps := []) (WideMaps.keyOf_string_mk (P := Tryz.prog) Tryz.underlying9 hs) (plainElem_int Tryz.underlying3 hwf)
  refine ⟨w', hrun, ⟨_, ho, h2.put _ _, fun t => ?_, fun t => ?_⟩, hg⟩
  · by_cases ht : t = s.data.toList
    · subst ht
      rw [has_put_same h2 (key_lit _)]; simp
    · rw [has_put_other (fun e => ht (by injection e)), h3]
      simp [ht]
  · rw [idxOf_snoc _ _ _ hne]
    by_cases ht : t = s.data.toList
    · subst ht
      rw [atKey_put_same h2 (key_lit _)]; simp
    · rw [atKey_put_other (fun e => ht (by injection e)), h4]
      simp [ht]
end Go.Proofs.YtoncpeadbhgmaaaGreatDoor.G

namespace Go.Proofs.YtoncpeadbhgmaaaGreatDoor.G
open Go.RowKit
theorem run_store_float {P : Program} {w : World} {a : Addr} {m : Mode} (k : FloatKind) (b : Nat) : (store a (.float k b) m).run P w = stored P w a (.float k b) m := run_store P w a _ m rfl
attribute [go_sem] run_store_float
end Go.Proofs.YtoncpeadbhgmaaaGreatDoor.G

namespace Go.Proofs.YtoncpeadbhgmaaaGreatDoor.G
open Go.RowKit Go.Proofs.YtoncpeadbhgmaaaGreatDoorW.PrintWords Go.Proofs.YtoncpeadbhgmaaaGreatDoorW.PrintLast Go.Proofs.YtoncpeadbhgmaaaGreatDoorW.PrintMore
attribute [local go_sem] max2_int min2_int max_two min_two max_three min_three max_four min_four   -- for this text's walks alone
set_option linter.unusedVariables false
set_option linter.unusedSimpArgs false

mutual
noncomputable def vec_Vector.l0 : Nat → List (S41) → List (S41) → Int → Int → Option ((List (S41)) × Int)
  | 0, _, _, _, _ => none
  | k + 1, x0, x15, x16, x17 => if x17 < x16 then (if 0 ≤ x17 then (if x17 < (x15.length : Int) then ((labels_Right.f k ((rd_T41 x15 x17).f0)).bind fun bt105 => (if bt105.1 = 0 then (vec_Vector.l0 k x0 x15 x16 (wrap64 (x17 + 1))) else (some (([] : List (S41)), 41)))) else (none)) else (none)) else (vec_Vector.l1 k ([] : List (S41)) x0 (x0.length : Int) 0)
noncomputable def vec_Vector.l1 : Nat → List (S41) → List (S41) → Int → Int → Option ((List (S41)) × Int)
  | 0, _, _, _, _ => none
  | k + 1, x8, x30, x31, x32 => if x32 < x31 then (if 0 ≤ x32 then (if x32 < (x30.length : Int) then ((slices_Clone_tocsin_api_Label_tocsin_api_Label.f ((rd_T41 x30 x32).f0)).bind fun t109 => (if x8.length < 4398046511104 then (vec_Vector.l1 k (x8 ++ [(⟨t109, (rd_T41 x30 x32).f1⟩ : S41)]) x30 x31 (wrap64 (x32 + 1))) else (none))) else (none)) else (none)) else (sortAll cmpPt x8 fun y8 => vec_Vector.l2 k y8 1)
noncomputable def vec_Vector.l2 : Nat → List (S41) → Int → Option ((List (S41)) × Int)
  | 0, _, _ => none
  | k + 1, x8, x11 => if x11 < (x8.length : Int) then (if 0 ≤ (wrap64 (x11 - 1)) then (if (wrap64 (x11 - 1)) < (x8.length : Int) then (if 0 ≤ x11 then ((labels_Compare.f ((rd_T41 x8 (wrap64 (x11 - 1))).f0) ((rd_T41 x8 x11).f0)).bind fun t117 => (if t117 = 0 then (some (([] : List (S41)), 150)) else (vec_Vector.l2 k x8 (wrap64 (x11 + 1))))) else (none)) else (none)) else (none)) else (some (x8, 0))
end
noncomputable def vec_Vector.f (k : Nat) (l0 : List (S41)) : Option ((List (S41)) × Int) := if (l0.length : Int) > 1000 then (some (([] : List (S41)), 7)) else (vec_Vector.l0 k l0 l0 (l0.length : Int) 0)
theorem vec_Vector.mono_l : ∀ k, (∀ y0 y1 y2 y3, LeO (vec_Vector.l0 k y0 y1 y2 y3) (vec_Vector.l0 (k + 1) y0 y1 y2 y3)) ∧ (∀ y0 y1 y2 y3, LeO (vec_Vector.l1 k y0 y1 y2 y3) (vec_Vector.l1 (k + 1) y0 y1 y2 y3)) ∧ (∀ y0 y1, LeO (vec_Vector.l2 k y0 y1) (vec_Vector.l2 (k + 1) y0 y1))
  | 0 => ⟨fun _ _ _ _ r h => by simp [vec_Vector.l0] at h, fun _ _ _ _ r h => by simp [vec_Vector.l1] at h, fun _ _ r h => by simp [vec_Vector.l2] at h⟩
  | k + 1 => by
    obtain ⟨ih0, ih1, ih2⟩ := vec_Vector.mono_l k
    refine ⟨?_, ?_, ?_⟩
    · intro y0 y1 y2 y3
      unfold vec_Vector.l0
      repeat' first
      | (with_reducible exact ih0 _ _ _ _)
      | (with_reducible exact ih1 _ _ _ _)
      | (with_reducible exact ih2 _ _)
      | (with_reducible exact labels_Right.mono _ _)
      | (with_reducible exact LeO.refl _)
      | (with_reducible exact LeO.none _)
      | (with_reducible refine LeO.ite ?_ ?_)
      | (with_reducible refine LeO.bind ?_ (fun _ => ?_))
      | exact ih0 _ _ _ _
      | exact ih1 _ _ _ _
      | exact ih2 _ _
      | exact labels_Right.mono _ _
      | (refine sortAll_mono (fun _ => ?_))
      | exact LeO.none _
      | refine LeO.ite ?_ ?_
      | refine LeO.bind ?_ (fun _ => ?_)
    · intro y0 y1 y2 y3
      unfold vec_Vector.l1
      repeat' first
      | (with_reducible exact ih0 _ _ _ _)
      | (with_reducible exact ih1 _ _ _ _)
      | (with_reducible exact ih2 _ _)
      | (with_reducible exact labels_Right.mono _ _)
      | (with_reducible exact LeO.refl _)
      | (with_reducible exact LeO.none _)
      | (with_reducible refine LeO.ite ?_ ?_)
      | (with_reducible refine LeO.bind ?_ (fun _ => ?_))
      | exact ih0 _ _ _ _
      | exact ih1 _ _ _ _
      | exact ih2 _ _
      | exact labels_Right.mono _ _
      | (refine sortAll_mono (fun _ => ?_))
      | exact LeO.none _
      | refine LeO.ite ?_ ?_
      | refine LeO.bind ?_ (fun _ => ?_)
    · intro y0 y1
      unfold vec_Vector.l2
      repeat' first
      | (with_reducible exact ih0 _ _ _ _)
      | (with_reducible exact ih1 _ _ _ _)
      | (with_reducible exact ih2 _ _)
      | (with_reducible exact labels_Right.mono _ _)
      | (with_reducible exact LeO.refl _)
      | (with_reducible exact LeO.none _)
      | (with_reducible refine LeO.ite ?_ ?_)
      | (with_reducible refine LeO.bind ?_ (fun _ => ?_))
      | exact ih0 _ _ _ _
      | exact ih1 _ _ _ _
      | exact ih2 _ _
      | exact labels_Right.mono _ _
      | (refine sortAll_mono (fun _ => ?_))
      | exact LeO.none _
      | refine LeO.ite ?_ ?_
      | refine LeO.bind ?_ (fun _ => ?_)
theorem vec_Vector.mono : ∀ a0 k, LeO (vec_Vector.f k a0) (vec_Vector.f (k + 1) a0) := by
  intro a0 k
  obtain ⟨ih0, ih1, ih2⟩ := vec_Vector.mono_l k
  unfold vec_Vector.f
  repeat' first
      | (with_reducible exact ih0 _ _ _ _)
      | (with_reducible exact ih1 _ _ _ _)
      | (with_reducible exact ih2 _ _)
      | (with_reducible exact labels_Right.mono _ _)
      | (with_reducible exact LeO.refl _)
      | (with_reducible exact LeO.none _)
      | (with_reducible refine LeO.ite ?_ ?_)
      | (with_reducible refine LeO.bind ?_ (fun _ => ?_))
      | exact ih0 _ _ _ _
      | exact ih1 _ _ _ _
      | exact ih2 _ _
      | exact labels_Right.mono _ _
      | (refine sortAll_mono (fun _ => ?_))
      | exact LeO.none _
      | refine LeO.ite ?_ ?_
      | refine LeO.bind ?_ (fun _ => ?_)
def vec_Vector.T14 : Bool × List (List Nat × List Nat) := (true, [([], []), ([], []), ([1], [1]), ([2], [2]), ([], []), ([4], [4]), ([3, 5], [3, 5]), ([6], [6]), ([0, 7, 3], [0, 7]), ([8, 8, 0, 1, 2, 3, 4, 5, 6, 7, 8], [0, 8])])
def vec_Vector.B14 : List Nat := [0, 0, 2, 6, 0, 16, 62, 126, 255, 511]
theorem vec_Vector.tab14 : rtab .any (opsOf Tryz.f27 14) = vec_Vector.T14 := by kernel_rfl
theorem vec_Vector.bits14 : waitsOk vec_Vector.T14.2 vec_Vector.B14 = true := by kernel_rfl
def vec_Vector.T20 : Bool × List (List Nat × List Nat) := (true, [([], []), ([], []), ([1], [1]), ([0, 2], [0, 2]), ([3], [3]), ([4], [4]), ([], []), ([], []), ([6, 7], [6, 7]), ([8], [8]), ([9], [9]), ([5, 10], [5, 10]), ([11], [11])])
def vec_Vector.B20 : List Nat := [0, 0, 2, 7, 15, 31, 0, 0, 192, 448, 960, 2047, 4095]
theorem vec_Vector.tab20 : rtab .any (opsOf Tryz.f27 20) = vec_Vector.T20 := by kernel_rfl
theorem vec_Vector.bits20 : waitsOk vec_Vector.T20.2 vec_Vector.B20 = true := by kernel_rfl
set_option maxHeartbeats 8000000 in
set_option maxRecDepth 100000 in
theorem vec_Vector.calls (k : Nat) (A0 : Option Addr) (c0 : Nat) (l0 : List (S41)) (r1 : List (S41)) (r2 : Int) (w : World) (hr0 : Kd.C k41 w A0 l0.length l0) (hc0 : l0.length ≤ c0) (hT : Tabs w) (h : vec_Vector.f k l0 = some (r1, r2)) :
    Calls Tryz.prog 27 #[.slice A0 l0.length c0] w fun e w' => ∃ v0_ : Value, e = .returned (.tuple #[v0_, .int .i64 r2]) ∧ Kd.R k41 41 w' w.heap.size (fun _ => True) v0_ r1 ∧ Below w.heap.size w w' := by
  have hu41 := Tryz.underlying41
  have HR0 := Aside0.mk hr0
  have HC0 := Aside0.mk hc0
  clear hr0 hc0
  have HT := Aside0.mk hT
  clear hT
  have HB := Aside0.mk (Below.refl w.heap.size w)
  have H : (if (l0.length : Int) > 1000 then (some (([] : List (S41)), 7)) else (vec_Vector.l0 k l0 l0 (l0.length : Int) 0)) = some (r1, r2) := h
  clear h
  by_cases c2 : (l0.length : Int) > 1000
  · rw [if_pos c2] at H
    have c2b0 : decide (1000 < (l0.length : Int)) = true := decide_eq_true c2
    have c2b1 : decide (1000 < l0.length) = true := decide_eq_true (by omega)
    clear c2
    simp only [Option.some.injEq, Prod.mk.injEq] at H
    obtain ⟨rfl, rfl⟩ := H
    go_enter Tryz.func27, Tryz.ntmps27
    go_wp2
    go_ret2
    exact ⟨_, by first | rfl | (simp [errW_none, errW_some] <;> rfl) | (simp [*, errW_none, errW_some] <;> rfl), by first | exact Kd.R_nil _ _ _ _ _ | exact Kd.N_nil _ _ _ _ _ | exact Kd.V_nil _ _ _ _ _ | exact Kd.Q_nil _ _ _ _ _ | exact Kd.S_nil _ _ _ _ _, by repeat (first | (with_reducible first | exact HB.out | apply below_alloc | apply pw_below_drewN | apply below_drew1) | exact HB.out)⟩
  · rw [if_neg c2] at H
    have c2b0 : decide (1000 < (l0.length : Int)) = false := decide_eq_false c2
    have c2b1 : decide (1000 < l0.length) = false := decide_eq_false (by omega)
    clear c2
    have H' := Aside0.mk H
    clear H
    go_enter Tryz.func27, Tryz.ntmps27
    go_wp2
    go_loopg [17] k (fun kq v17 w' => ∃ (x17_1 : Int), v17 = .int .i64 x17_1 ∧ Aside0 (vec_Vector.l0 kq l0 l0 (l0.length : Int) x17_1 = some (r1, r2)) ∧ Aside0 (kq ≤ k) ∧ Aside0 (Below w.heap.size w w'))
    case atStart => exact ⟨(0), (by first | rfl | (simp; done) | (simp [*]; done)), H', ⟨Nat.le_refl _⟩, ⟨by repeat (first | (with_reducible first | exact HB.out | apply below_alloc | apply pw_below_drewN | apply below_drew1) | exact HB.out)⟩⟩
    case round =>
      clear H'
      try clear c2
      try clear c2b0
      try clear c2b1
      try clear p2
      obtain ⟨x17_1, rfl, HA, HK1, HB⟩ := hrel
      cases gk with
      | zero => exact absurd HA.out (by simp [vec_Vector.l0])
      | succ k1 =>
        have H := HA.out
        clear HA
        simp only [vec_Vector.l0] at H
        by_cases c3 : x17_1 < (l0.length : Int)
        · rw [if_pos c3] at H
          have c3b0 : decide (x17_1 < (l0.length : Int)) = true := decide_eq_true c3
          clear c3
          by_cases c4 : 0 ≤ x17_1
          · rw [if_pos c4] at H
            have c4b0 : decide (0 ≤ x17_1) = true := decide_eq_true c4
            clear c4
            by_cases c5 : x17_1 < (l0.length : Int)
            · rw [if_pos c5] at H
              have c5b0 : decide (x17_1 < (l0.length : Int)) = true := decide_eq_true c5
              clear c5
              replace H := Option.bind_eq_some_iff.mp H
              obtain ⟨⟨t105, t106⟩, A60, H⟩ := H
              replace H : (if t105 = 0 then (vec_Vector.l0 k1 l0 l0 (l0.length : Int) (wrap64 (x17_1 + 1))) else (some (([] : List (S41)), 41))) = some (r1, r2) := H
              have A6 := Aside0.mk A60
              clear A60
              by_cases c7 : t105 = 0
              · rw [if_pos c7] at H
                have c7b0 : (t105 == 0) = true := beq_iff_eq.mpr c7
                have c7b1 : (t105 != 0) = false := bne_eq_false_iff_eq.mpr c7
                clear c7
                have H' := Aside0.mk H
                clear H
                have p103 : 0 ≤ (x17_1 : Int) := of_decide_eq_true (by first | (with_reducible assumption) | assumption)
                have q103 : x17_1 < (l0.length : Int) := of_decide_eq_true (by first | (with_reducible assumption) | assumption)
                obtain ⟨ad103, A103_0, c103_0, e103, hx103_0, hx103_1, hl103_0, hi103_0⟩ := at_T41 HR0.out x17_1 p103 q103
                cases e103
                replace hx103_0 := (HB.out.cell (World.block_lt_of_cell? w _ hx103_0)).trans hx103_0
                replace hx103_1 := (HB.out.cell (World.block_lt_of_cell? w _ hx103_1)).trans hx103_1
                have HR103_0 := Aside0.mk hi103_0
                have HC103_0 := Aside0.mk hl103_0
                clear hi103_0 hl103_0
                replace p103 := eq_true p103
                replace q103 := eq_true q103
                go_wp2_with (first | ((with_reducible refine gate_dst (N := 5) rfl ?_); refine box_event ?hg (N := 5) ?hd (cs := #[.slice none 0 0, .float .f64 (0 : Nat)]) (t := 41) ?hr ?_; (case hd => rfl); (case hg => rfl); (case hr => first | (go_simp; done) | (go_simp; rfl)); intro gb104 hg w8 hbox hb; have n0_ := Aside0.mk (below_step (by repeat (first | (with_reducible first | exact HB.out | apply below_alloc | apply pw_below_drewN | apply below_drew1) | exact HB.out)) hb); have n1_ := Aside0.mk (hbox); have n2_ := Aside0.mk ((by rw [hg]; exact (below_size (by repeat (first | (with_reducible first | exact HB.out | apply below_alloc | apply pw_below_drewN | apply below_drew1) | exact HB.out))) : w.heap.size ≤ gb104)); have n3_ := Aside0.mk ((by rw [hg]; exact (below_size (by repeat (first | (with_reducible first | exact HB.out | apply below_alloc | apply pw_below_drewN | apply below_drew1) | exact HB.out))) : w.heap.size ≤ gb104)); clear HB; have HB := n0_; have BK104 := n1_; have GW104 := n2_; have GE104 := n3_; clear n0_ n1_ n2_ n3_; clear hb hbox hg; have hcz9_0 : w8.cell? ⟨gb104, 0, none⟩ = some (.slice none 0 0) := (blk_cell BK104.out 0).trans rfl; have hcz9_1 : w8.cell? ⟨gb104, 1, none⟩ = some (.float .f64 (0 : Nat)) := (blk_cell BK104.out 1).trans rfl; have hfz9_0 := blk_frozen BK104.out 0; have hfz9_1 := blk_frozen BK104.out 1) | ((with_reducible refine gate_callee (f := 73) rfl ?_); refine goesL_ (some 24) rfl rfl Tryz.func73 (by kernel_rfl) rfl #[.slice A103_0 ((rd_T41 l0 x17_1).f0).length c103_0] rfl (by (try simp only [List.map_toArray, List.map_cons, List.map_nil]); first | done | rfl | (simp only [List.length_drop, List.length_take]; rfl)) ?_; (with_reducible refine (labels_Right.calls k1 _ _ ((rd_T41 l0 x17_1).f0) t105 t106 _ ?side1 ?side2 ?side3 A6.out).mono ?_); (case side1 => exact Kd.C_below HR103_0.out (by repeat (first | (with_reducible first | exact HB.out | apply below_alloc | apply pw_below_drewN | apply below_drew1 | refine below_set ?_ GE104.out) | exact HB.out))); (case side2 => exact HC103_0.out); (case side3 => first | exact HT.out | exact tabs_below HT.out (by repeat (first | (with_reducible first | exact HB.out | apply below_alloc | apply pw_below_drewN | apply below_drew1 | refine below_set ?_ GE104.out) | exact HB.out))); rintro e w10 ⟨rfl, hb⟩; refine ⟨_, rfl, ?_⟩; have n0_ := Aside0.mk (blk_below (g := gb104) (o := .cells #[.slice A103_0 ((rd_T41 l0 x17_1).f0).length c103_0, .float .f64 ((rd_T41 l0 x17_1).f1)] 41 (0, 0)) (by (with_reducible repeat (first | refine blk_drewN ?_ _ | refine blk_drew ?_ | refine blk_alloc ?_ _)); refine blk_put (cs := #[.slice A103_0 ((rd_T41 l0 x17_1).f0).length c103_0, .float .f64 (0 : Nat)]) ?_ 1 _ rfl; (with_reducible repeat (first | refine blk_drewN ?_ _ | refine blk_drew ?_ | refine blk_alloc ?_ _)); refine blk_put (cs := #[.slice none 0 0, .float .f64 (0 : Nat)]) ?_ 0 _ rfl; (with_reducible repeat (first | refine blk_drewN ?_ _ | refine blk_drew ?_ | refine blk_alloc ?_ _)); exact BK104.out) hb); have n1_ := Aside0.mk (below_step (by repeat (first | (with_reducible first | exact HB.out | apply below_alloc | apply pw_below_drewN | apply below_drew1 | refine below_set ?_ GE104.out) | exact HB.out)) hb); clear BK104; clear HB; have BK104 := n0_; have HB := n1_; clear n0_ n1_; (try clear hb); (try clear hb2); (try clear hk); (try clear hi)))
                go_roundg k1
                case measure => have := HK1.out; omega
                case rel => exact ⟨(wrap64 (x17_1 + 1)), (by first | rfl | (simp; done) | (simp [*]; done)), H', ⟨by have := HK1.out; omega⟩, ⟨by repeat (first | (with_reducible first | exact HB.out | apply below_alloc | apply pw_below_drewN | apply below_drew1 | refine below_set ?_ GE104.out) | exact HB.out)⟩⟩
              · rw [if_neg c7] at H
                have c7b0 : (t105 == 0) = false := beq_eq_false_iff_ne.mpr c7
                have c7b1 : (t105 != 0) = true := bne_iff_ne.mpr c7
                simp only [Option.some.injEq, Prod.mk.injEq] at H
                obtain ⟨rfl, rfl⟩ := H
                have p103 : 0 ≤ (x17_1 : Int) := of_decide_eq_true (by first | (with_reducible assumption) | assumption)
                have q103 : x17_1 < (l0.length : Int) := of_decide_eq_true (by first | (with_reducible assumption) | assumption)
                obtain ⟨ad103, A103_0, c103_0, e103, hx103_0, hx103_1, hl103_0, hi103_0⟩ := at_T41 HR0.out x17_1 p103 q103
                cases e103
                replace hx103_0 := (HB.out.cell (World.block_lt_of_cell? w _ hx103_0)).trans hx103_0
                replace hx103_1 := (HB.out.cell (World.block_lt_of_cell? w _ hx103_1)).trans hx103_1
                have HR103_0 := Aside0.mk hi103_0
                have HC103_0 := Aside0.mk hl103_0
                clear hi103_0 hl103_0
                replace p103 := eq_true p103
                replace q103 := eq_true q103
                go_wp2_with (first | ((with_reducible refine gate_dst (N := 5) rfl ?_); refine box_event ?hg (N := 5) ?hd (cs := #[.slice none 0 0, .float .f64 (0 : Nat)]) (t := 41) ?hr ?_; (case hd => rfl); (case hg => rfl); (case hr => first | (go_simp; done) | (go_simp; rfl)); intro gb104 hg w11 hbox hb; have n0_ := Aside0.mk (below_step (by repeat (first | (with_reducible first | exact HB.out | apply below_alloc | apply pw_below_drewN | apply below_drew1) | exact HB.out)) hb); have n1_ := Aside0.mk (hbox); have n2_ := Aside0.mk ((by rw [hg]; exact (below_size (by repeat (first | (with_reducible first | exact HB.out | apply below_alloc | apply pw_below_drewN | apply below_drew1) | exact HB.out))) : w.heap.size ≤ gb104)); have n3_ := Aside0.mk ((by rw [hg]; exact (below_size (by repeat (first | (with_reducible first | exact HB.out | apply below_alloc | apply pw_below_drewN | apply below_drew1) | exact HB.out))) : w.heap.size ≤ gb104)); clear HB; have HB := n0_; have BK104 := n1_; have GW104 := n2_; have GE104 := n3_; clear n0_ n1_ n2_ n3_; clear hb hbox hg; have hcz12_0 : w11.cell? ⟨gb104, 0, none⟩ = some (.slice none 0 0) := (blk_cell BK104.out 0).trans rfl; have hcz12_1 : w11.cell? ⟨gb104, 1, none⟩ = some (.float .f64 (0 : Nat)) := (blk_cell BK104.out 1).trans rfl; have hfz12_0 := blk_frozen BK104.out 0; have hfz12_1 := blk_frozen BK104.out 1) | ((with_reducible refine gate_callee (f := 73) rfl ?_); refine goesL_ (some 24) rfl rfl Tryz.func73 (by kernel_rfl) rfl #[.slice A103_0 ((rd_T41 l0 x17_1).f0).length c103_0] rfl (by (try simp only [List.map_toArray, List.map_cons, List.map_nil]); first | done | rfl | (simp only [List.length_drop, List.length_take]; rfl)) ?_; (with_reducible refine (labels_Right.calls k1 _ _ ((rd_T41 l0 x17_1).f0) t105 t106 _ ?side1 ?side2 ?side3 A6.out).mono ?_); (case side1 => exact Kd.C_below HR103_0.out (by repeat (first | (with_reducible first | exact HB.out | apply below_alloc | apply pw_below_drewN | apply below_drew1 | refine below_set ?_ GE104.out) | exact HB.out))); (case side2 => exact HC103_0.out); (case side3 => first | exact HT.out | exact tabs_below HT.out (by repeat (first | (with_reducible first | exact HB.out | apply below_alloc | apply pw_below_drewN | apply below_drew1 | refine below_set ?_ GE104.out) | exact HB.out))); rintro e w13 ⟨rfl, hb⟩; refine ⟨_, rfl, ?_⟩; have n0_ := Aside0.mk (blk_below (g := gb104) (o := .cells #[.slice A103_0 ((rd_T41 l0 x17_1).f0).length c103_0, .float .f64 ((rd_T41 l0 x17_1).f1)] 41 (0, 0)) (by (with_reducible repeat (first | refine blk_drewN ?_ _ | refine blk_drew ?_ | refine blk_alloc ?_ _)); refine blk_put (cs := #[.slice A103_0 ((rd_T41 l0 x17_1).f0).length c103_0, .float .f64 (0 : Nat)]) ?_ 1 _ rfl; (with_reducible repeat (first | refine blk_drewN ?_ _ | refine blk_drew ?_ | refine blk_alloc ?_ _)); refine blk_put (cs := #[.slice none 0 0, .float .f64 (0 : Nat)]) ?_ 0 _ rfl; (with_reducible repeat (first | refine blk_drewN ?_ _ | refine blk_drew ?_ | refine blk_alloc ?_ _)); exact BK104.out) hb); have n1_ := Aside0.mk (below_step (by repeat (first | (with_reducible first | exact HB.out | apply below_alloc | apply pw_below_drewN | apply below_drew1 | refine below_set ?_ GE104.out) | exact HB.out)) hb); clear BK104; clear HB; have BK104 := n0_; have HB := n1_; clear n0_ n1_; (try clear hb); (try clear hb2); (try clear hk); (try clear hi)))
                go_ret2
                exact ⟨_, by first | rfl | (simp [errW_none, errW_some] <;> rfl) | (simp [*, errW_none, errW_some] <;> rfl), by first | exact Kd.R_nil _ _ _ _ _ | exact Kd.N_nil _ _ _ _ _ | exact Kd.V_nil _ _ _ _ _ | exact Kd.Q_nil _ _ _ _ _ | exact Kd.S_nil _ _ _ _ _, by repeat (first | (with_reducible first | exact HB.out | apply below_alloc | apply pw_below_drewN | apply below_drew1 | refine below_set ?_ GE104.out) | exact HB.out)⟩
            · rw [if_neg c5] at H
              exact absurd H (by simp)
          · rw [if_neg c4] at H
            exact absurd H (by simp)
        · rw [if_neg c3] at H
          have c3b0 : decide (x17_1 < (l0.length : Int)) = false := decide_eq_false c3
          clear c3
          have H' := Aside0.mk H
          clear H
          go_wp2
          go_loopg [8, 32] k1 (fun kq v8 v32 w' => ∃ (x8_2 : List (S41)) (x32_2 : Int), v32 = .int .i64 x32_2 ∧ Aside0 (vec_Vector.l1 kq x8_2 l0 (l0.length : Int) x32_2 = some (r1, r2)) ∧ Aside0 (kq ≤ k1) ∧ Aside0 (Kd.R k41 41 w' w.heap.size (fun _ => True) v8 x8_2) ∧ Aside0 (Below w.heap.size w w'))
          case atStart => exact ⟨(([] : List (S41))), (0), (by first | rfl | (simp; done) | (simp [*]; done)), H', ⟨Nat.le_refl _⟩, ⟨by first | exact Kd.R_nil _ _ _ _ _ | exact Kd.N_nil _ _ _ _ _ | exact Kd.V_nil _ _ _ _ _ | exact Kd.Q_nil _ _ _ _ _ | exact Kd.S_nil _ _ _ _ _⟩, ⟨by repeat (first | (with_reducible first | exact HB.out | apply below_alloc | apply pw_below_drewN | apply below_drew1) | exact HB.out)⟩⟩
          case round =>
            clear H'
            try clear c1
            try clear p1
            try clear q1
            try clear hx1
            try clear c2
            try clear c2b0
            try clear c2b1
            try clear p2
            try clear c3
            try clear c3b0
            try clear c4
            try clear c4b0
            try clear c5
            try clear c5b0
            try clear p6
            try clear c7
            try clear c7b0
            try clear c7b1
            try clear c10
            try clear p10
            try clear q10
            try clear hx10
            try clear hcz12_0
            try clear hcz12_1
            try clear hcz9_0
            try clear hcz9_1
            try clear hfz12_0
            try clear hfz12_1
            try clear hfz9_0
            try clear hfz9_1
            try clear hx103_0
            try clear hx103_1
            try clear p103
            try clear p2
            try clear q103
            obtain ⟨x8_2, x32_2, rfl, HA, HK2, HO_8, HB⟩ := hrel
            cases gk with
            | zero => exact absurd HA.out (by simp [vec_Vector.l1])
            | succ k2 =>
              have H := HA.out
              clear HA
              simp only [vec_Vector.l1] at H
              by_cases c14 : x32_2 < (l0.length : Int)
              · rw [if_pos c14] at H
                have c14b0 : decide (x32_2 < (l0.length : Int)) = true := decide_eq_true c14
                clear c14
                by_cases c15 : 0 ≤ x32_2
                · rw [if_pos c15] at H
                  have c15b0 : decide (0 ≤ x32_2) = true := decide_eq_true c15
                  clear c15
                  by_cases c16 : x32_2 < (l0.length : Int)
                  · rw [if_pos c16] at H
                    have c16b0 : decide (x32_2 < (l0.length : Int)) = true := decide_eq_true c16
                    clear c16
                    replace H := Option.bind_eq_some_iff.mp H
                    obtain ⟨t109, A170, H⟩ := H
                    replace H : (if x8_2.length < 4398046511104 then (vec_Vector.l1 k2 (x8_2 ++ [(⟨t109, (rd_T41 l0 x32_2).f1⟩ : S41)]) l0 (l0.length : Int) (wrap64 (x32_2 + 1))) else (none)) = some (r1, r2) := H
                    have A17 := Aside0.mk A170
                    clear A170
                    by_cases c18 : x8_2.length < 4398046511104
                    · rw [if_pos c18] at H
                      have LMc18 := Aside0.mk c18
                      clear c18
                      obtain ⟨y112, hy112⟩ : ∃ y_ : List (S41), y_ = (x8_2 ++ [(⟨t109, (rd_T41 l0 x32_2).f1⟩ : S41)]) := ⟨_, rfl⟩
                      replace H : (vec_Vector.l1 k2 y112 l0 (l0.length : Int) (wrap64 (x32_2 + 1))) = some (r1, r2) := by first | (rw [hy112]; with_reducible exact H) | (have H2_ := (Option.bind_some _ _).symm.trans H; rw [hy112]; with_reducible exact H2_) | (have H2_ := (Option.bind_some _ _).symm.trans H; with_reducible exact H2_) | with_reducible exact H | (rw [hy112]; exact H) | exact H
                      have Ny112 := Aside0.mk hy112
                      clear hy112
                      have H' := Aside0.mk H
                      clear H
                      have p107 : 0 ≤ (x32_2 : Int) := of_decide_eq_true (by first | (with_reducible assumption) | assumption)
                      have q107 : x32_2 < (l0.length : Int) := of_decide_eq_true (by first | (with_reducible assumption) | assumption)
                      obtain ⟨ad107, A107_0, c107_0, e107, hx107_0, hx107_1, hl107_0, hi107_0⟩ := at_T41 HR0.out x32_2 p107 q107
                      cases e107
                      replace hx107_0 := (HB.out.cell (World.block_lt_of_cell? w _ hx107_0)).trans hx107_0
                      replace hx107_1 := (HB.out.cell (World.block_lt_of_cell? w _ hx107_1)).trans hx107_1
                      have HR107_0 := Aside0.mk hi107_0
                      have HC107_0 := Aside0.mk hl107_0
                      clear hi107_0 hl107_0
                      replace p107 := eq_true p107
                      replace q107 := eq_true q107
                      try go_wp2_with (first | ((with_reducible refine gate_dst (N := 10) rfl ?_); refine box_event ?hg (N := 10) ?hd (cs := #[.slice none 0 0, .float .f64 (0 : Nat)]) (t := 41) ?hr ?_; (case hd => rfl); (case hg => rfl); (case hr => first | (go_simp; done) | (go_simp; rfl)); intro gb108 hg w19 hbox hb; have n0_ := Aside0.mk (Kd.R_below (Kd.R_elderB (by (with_reducible repeat (first | apply Kd.R_alloc | apply Kd.R_drewN | apply Kd.R_drew)); exact HO_8.out) gb108 (Nat.le_of_eq hg.symm)) hb); have n1_ := Aside0.mk (below_step (by repeat (first | (with_reducible first | exact HB.out | apply below_alloc | apply pw_below_drewN | apply below_drew1) | exact HB.out)) hb); have n2_ := Aside0.mk (hbox); have n3_ := Aside0.mk ((by rw [hg]; exact (below_size (by repeat (first | (with_reducible first | exact HB.out | apply below_alloc | apply pw_below_drewN | apply below_drew1) | exact HB.out))) : w.heap.size ≤ gb108)); have n4_ := Aside0.mk ((by rw [hg]; exact (below_size (by repeat (first | (with_reducible first | exact HB.out | apply below_alloc | apply pw_below_drewN | apply below_drew1) | exact HB.out))) : w.heap.size ≤ gb108)); clear HO_8; clear HB; have HO_8 := n0_; have HB := n1_; have BK108 := n2_; have GW108 := n3_; have GE108 := n4_; clear n0_ n1_ n2_ n3_ n4_; clear hb hbox hg; have hcz20_0 : w19.cell? ⟨gb108, 0, none⟩ = some (.slice none 0 0) := (blk_cell BK108.out 0).trans rfl; have hcz20_1 : w19.cell? ⟨gb108, 1, none⟩ = some (.float .f64 (0 : Nat)) := (blk_cell BK108.out 1).trans rfl; have hfz20_0 := blk_frozen BK108.out 0; have hfz20_1 := blk_frozen BK108.out 1))
                      have n0_ : Aside0 (Kd.R k41 41 ((w19.setCell ⟨gb108, 0, none⟩ (.slice A107_0 ((rd_T41 l0 x32_2).f0).length c107_0)).setCell ⟨gb108, 1, none⟩ (.float .f64 ((rd_T41 l0 x32_2).f1))) w.heap.size (fun k_ => k_ ≠ gb108) u8 x8_2) := ⟨by (with_reducible repeat (first | apply Kd.R_alloc | apply Kd.R_drewN | apply Kd.R_drew)); exact Kd.R_mono (Kd.R_far (p := ⟨gb108, 1, none⟩) (Kd.R_far (p := ⟨gb108, 0, none⟩) (Kd.R_mono HO_8.out (fun k_ hk => (⟨hk, hk.2⟩ : _ ∧ k_ ≠ gb108))) (fun _ hk => hk.2) (.slice A107_0 ((rd_T41 l0 x32_2).f0).length c107_0)) (fun _ hk => hk.2) (.float .f64 ((rd_T41 l0 x32_2).f1))) (fun _ hk => hk.1.2)⟩
                      have n1_ : Aside0 (((w19.setCell ⟨gb108, 0, none⟩ (.slice A107_0 ((rd_T41 l0 x32_2).f0).length c107_0)).setCell ⟨gb108, 1, none⟩ (.float .f64 ((rd_T41 l0 x32_2).f1))).heap[gb108]? = some (.cells #[.slice A107_0 ((rd_T41 l0 x32_2).f0).length c107_0, .float .f64 ((rd_T41 l0 x32_2).f1)] 41 (0, 0))) := ⟨by (with_reducible repeat (first | refine blk_drewN ?_ _ | refine blk_drew ?_ | refine blk_alloc ?_ _)); refine blk_put (cs := #[.slice A107_0 ((rd_T41 l0 x32_2).f0).length c107_0, .float .f64 (0 : Nat)]) ?_ 1 _ rfl; (with_reducible repeat (first | refine blk_drewN ?_ _ | refine blk_drew ?_ | refine blk_alloc ?_ _)); refine blk_put (cs := #[.slice none 0 0, .float .f64 (0 : Nat)]) ?_ 0 _ rfl; (with_reducible repeat (first | refine blk_drewN ?_ _ | refine blk_drew ?_ | refine blk_alloc ?_ _)); exact BK108.out⟩
                      have n2_ : Aside0 (Below w.heap.size w ((w19.setCell ⟨gb108, 0, none⟩ (.slice A107_0 ((rd_T41 l0 x32_2).f0).length c107_0)).setCell ⟨gb108, 1, none⟩ (.float .f64 ((rd_T41 l0 x32_2).f1)))) := ⟨by repeat (first | (with_reducible first | exact HB.out | apply below_alloc | apply pw_below_drewN | apply below_drew1 | refine below_set ?_ GE108.out) | exact HB.out)⟩
                      (try clear HO_8)
                      (try clear BK108)
                      (try clear HB)
                      generalize ((w19.setCell ⟨gb108, 0, none⟩ (.slice A107_0 ((rd_T41 l0 x32_2).f0).length c107_0)).setCell ⟨gb108, 1, none⟩ (.float .f64 ((rd_T41 l0 x32_2).f1))) = w21 at n0_ n1_ n2_ ⊢
                      have HO_8 := n0_
                      have BK108 := n1_
                      have HB := n2_
                      clear n0_ n1_ n2_
                      have n0_ := Aside0.mk (Kd.R_drew HO_8.out)
                      have n1_ := Aside0.mk (blk_drew BK108.out)
                      have n2_ := Aside0.mk (below_drew1 HB.out)
                      clear HO_8
                      clear BK108
                      clear HB
                      have HO_8 := n0_
                      have BK108 := n1_
                      have HB := n2_
                      clear n0_ n1_ n2_
                      refine start_ (n := 10) (S := fun w' => w'.cell? ⟨gb108, 0, none⟩ = some (.slice A107_0 ((rd_T41 l0 x32_2).f0).length c107_0) ∧ w'.cell? ⟨gb108, 1, none⟩ = some (.float .f64 ((rd_T41 l0 x32_2).f1))) (ds := []) #[false, false, false, false, false, false, false, false, false, false] (by kernel_rfl) rfl rfl ⟨(blk_cell BK108.out 0).trans rfl, (blk_cell BK108.out 1).trans rfl⟩ (fun hHeld => ?_); refine with_tabW vec_Vector.tab14 vec_Vector.bits14 (fun HT_ HW_ => ?_)
                      generalize w21.drew = w22 at HO_8 BK108 HB hHeld ⊢
                      refine pure_ (i := 0) (N := some 36) (v := ?_) (a' := ?_) #[true, false, false, false, false, false, false, false, false, false] rfl rfl (any_of HT_.out (by kernel_rfl)) (fun _ _ _ h => h) (Or.inl ⟨by rfl, ?_⟩) ?_ ?_
                      rotate_left
                      · intro w'
                        go_simp
                        with_reducible rfl
                      rotate_left
                      · simp only [Act.put, List.setIfInBounds_toArray, List.set_cons_zero, List.set_cons_succ, i64_w, i32_w]
                        rfl
                      refine pure_ (i := 1) (N := some 37) (v := ?_) (a' := ?_) #[true, true, false, false, false, false, false, false, false, false] rfl rfl (any_of HT_.out (by kernel_rfl)) (fun _ _ _ h => h) (Or.inl ⟨by rfl, ?_⟩) ?_ ?_
                      rotate_left
                      · intro w'
                        go_simp
                        with_reducible rfl
                      rotate_left
                      · simp only [Act.put, List.setIfInBounds_toArray, List.set_cons_zero, List.set_cons_succ, i64_w, i32_w]
                        rfl
                      refine pure_ (i := 4) (N := some 40) (v := ?_) (a' := ?_) #[true, true, false, false, true, false, false, false, false, false] rfl rfl (any_of HT_.out (by kernel_rfl)) (fun _ _ _ h => h) (Or.inl ⟨by rfl, ?_⟩) ?_ ?_
                      rotate_left
                      · intro w'
                        go_simp
                        with_reducible rfl
                      rotate_left
                      · simp only [Act.put, List.setIfInBounds_toArray, List.set_cons_zero, List.set_cons_succ, i64_w, i32_w]
                        rfl
                      refine take_ (i := 2) (N := some 38) (v := ?_) (a' := ?_) #[true, true, true, false, true, false, false, false, false, false] rfl rfl (take_ofW HT_.out HW_.out (by kernel_rfl)) (fun _ _ _ h => h) (Or.inl ⟨by rfl, ?_⟩) hHeld ?_ ?_
                      rotate_left
                      · rintro w' ⟨s0, s1⟩
                        go_simp
                        with_reducible rfl
                      rotate_left
                      · simp only [Act.put, List.setIfInBounds_toArray, List.set_cons_zero, List.set_cons_succ, i64_w, i32_w]
                        rfl
                      refine take_ (i := 5) (N := some 41) (v := ?_) (a' := ?_) #[true, true, true, false, true, true, false, false, false, false] rfl rfl (take_ofW HT_.out HW_.out (by kernel_rfl)) (fun _ _ _ h => h) (Or.inl ⟨by rfl, ?_⟩) hHeld ?_ ?_
                      rotate_left
                      · rintro w' ⟨s0, s1⟩
                        go_simp
                        with_reducible rfl
                      rotate_left
                      · simp only [Act.put, List.setIfInBounds_toArray, List.set_cons_zero, List.set_cons_succ, i64_w, i32_w]
                        rfl
                      refine one_ (i := 3) (N := some 39) #[true, true, true, true, true, true, false, false, false, false] rfl rfl (one_of HT_.out (by kernel_rfl)) (by decide) (fun K hK => ?_)
                      refine goes_ Tryz.func74 (by kernel_rfl) rfl #[.slice A107_0 ((rd_T41 l0 x32_2).f0).length c107_0] (by rfl) rfl rfl (by (try simp only [List.map_toArray, List.map_cons, List.map_nil]); first | done | rfl | (simp only [List.length_drop, List.length_take]; rfl)) ?_
                      with_reducible refine (slices_Clone_tocsin_api_Label_tocsin_api_Label.calls _ _ ((rd_T41 l0 x32_2).f0) t109 _ ?side1 ?side2 A17.out).mono ?_
                      (case side1 => repeat (first | exact (Kd.C_below HR107_0.out HB.out) | (with_reducible refine Kd.C_alloc ?_ _) | (with_reducible refine Kd.C_drewN ?_ _) | (with_reducible refine Kd.C_drew ?_)))
                      (case side2 => exact HC107_0.out)
                      rintro e w23 ⟨v110, rfl, ho0, hb⟩
                      refine ⟨_, rfl, ?_⟩
                      have n0_ := Aside0.mk (Kd.R_elder' (by (with_reducible repeat (first | apply Kd.R_alloc | apply Kd.R_drewN | apply Kd.R_drew)); exact HO_8.out) (Kd.R_base ho0) hb)
                      have n1_ := Aside0.mk (Kd.R_lower ho0 (below_size (by repeat (first | (with_reducible first | exact HB.out | apply below_alloc | apply pw_below_drewN | apply below_drew1 | refine below_set ?_ GE108.out) | exact HB.out))))
                      have n2_ := Aside0.mk (blk_below (g := gb108) (o := .cells #[.slice A107_0 ((rd_T41 l0 x32_2).f0).length c107_0, .float .f64 ((rd_T41 l0 x32_2).f1)] 41 (0, 0)) (by (with_reducible repeat (first | refine blk_drewN ?_ _ | refine blk_drew ?_ | refine blk_alloc ?_ _)); exact BK108.out) hb)
                      have n3_ := Aside0.mk (below_step (by repeat (first | (with_reducible first | exact HB.out | apply below_alloc | apply pw_below_drewN | apply below_drew1 | refine below_set ?_ GE108.out) | exact HB.out)) hb)
                      clear HO_8
                      clear BK108
                      clear HB
                      have HO_8 := n0_
                      have HO111 := n1_
                      have BK108 := n2_
                      have HB := n3_
                      clear n0_ n1_ n2_ n3_
                      (try clear hb)
                      (try clear hb2)
                      (try clear hk)
                      (try clear hi)
                      (try clear ho0)
                      obtain ⟨Ao24, co24, eo24⟩ := Kd.R_slice HO111.out
                      (first | subst eo24 | (injection eo24 with f1_ f2_ f3_; have f4_ := f1_.symm; have f5_ := f3_.symm; clear f1_ f2_ f3_; subst f4_; subst f5_))
                      refine hK.out _ _ ⟨(blk_cell BK108.out 0).trans rfl, (blk_cell BK108.out 1).trans rfl⟩ (fun hHeld => ?_)
                      clear hK K
                      refine norm_ (a' := ?_) ?_ ?_
                      rotate_left
                      · show Act.put _ (some 39) _ = _
                        simp only [Act.put, List.setIfInBounds_toArray, List.set_cons_zero, List.set_cons_succ, i64_w, i32_w]
                        rfl
                      refine pure_ (i := 6) (N := some 42) (v := ?_) (a' := ?_) #[true, true, true, true, true, true, true, false, false, false] rfl rfl (any_of HT_.out (by kernel_rfl)) (fun _ _ _ h => h) (Or.inl ⟨by rfl, ?_⟩) ?_ ?_
                      rotate_left
                      · intro w'
                        go_simp
                        with_reducible rfl
                      rotate_left
                      · simp only [Act.put, List.setIfInBounds_toArray, List.set_cons_zero, List.set_cons_succ, i64_w, i32_w]
                        rfl
                      refine one_ (i := 7) (N := some 43) #[true, true, true, true, true, true, true, true, false, false] rfl rfl (one_of HT_.out (by kernel_rfl)) (by decide) (fun K hK => ?_)
                      refine value_ (w1 := ?_) (v := ?_) (by rfl) rfl ?_ ?_
                      rotate_left 2
                      · go_simp
                        constructor
                        · rfl
                        · rfl
                      refine hK.out _ _ ⟨(blk_cell (blk_alloc BK108.out _) 0).trans rfl, (blk_cell (blk_alloc BK108.out _) 1).trans rfl⟩ (fun hHeld => ?_)
                      clear hK K
                      refine norm_ (a' := ?_) ?_ ?_
                      rotate_left
                      · show Act.put _ (some 43) _ = _
                        simp only [Act.put, List.setIfInBounds_toArray, List.set_cons_zero, List.set_cons_succ, i64_w, i32_w]
                        rfl
                      refine one_ (i := 8) (N := some 44) #[true, true, true, true, true, true, true, true, true, false] rfl rfl (one_of HT_.out (by kernel_rfl)) (by decide) (fun K hK => ?_)
                      refine Kd.R_append_step k41 (w0 := w) w.heap.size (by rfl) (.tmp 36) (.tmp 43) 22 41 (.agg #[(.slice none 0 0), (.float .f64 0)]) 32 rfl Tryz.underlying22 info41 rfl (by decide) (by omega) u8 x8_2 (⟨t109, (rd_T41 l0 x32_2).f1⟩ : S41) [.slice Ao24 t109.length co24, .float .f64 ((rd_T41 l0 x32_2).f1)] (fun k_ => k_ ≠ gb108) (fun k_ => ((fun k_ => k_ ≠ gb108)) k_ ∧ some k_ ≠ (u8 : Value).ownBlock) rfl rfl ?aP (fun _ hk => hk) ?aF ?aO ?aB ?aS ?aL ?_
                      (case aP => exact k41_mkM _ _ _ (⟨t109, (rd_T41 l0 x32_2).f1⟩ : S41) (Kd.R_mono (Kd.R_types (Kd.R_apart' (HO111.out) (Kd.R_typed HO_8.out) (by decide)) BK108.out (by decide)) (fun k_ hk => ⟨hk.2, hk.1.2⟩)))
                      (case aB => exact (by repeat (first | (with_reducible first | exact HB.out | apply below_alloc | apply pw_below_drewN | apply below_drew1 | refine below_set ?_ GE108.out) | exact HB.out)))
                      (case aF => exact (fun k_ hk => Kd.freshB (g := gb108) (o := .cells #[.slice A107_0 ((rd_T41 l0 x32_2).f0).length c107_0, .float .f64 ((rd_T41 l0 x32_2).f1)] 41 (0, 0)) (by (with_reducible repeat (first | refine blk_drewN ?_ _ | refine blk_drew ?_ | refine blk_alloc ?_ _)); exact BK108.out) k_ hk))
                      (case aO => exact (by (with_reducible repeat (first | apply Kd.R_alloc | apply Kd.R_drewN | apply Kd.R_drew)); exact Kd.R_mono HO_8.out (fun _ hk => hk.1)))
                      (case aS => exact (below_size (by repeat (first | (with_reducible first | exact HB.out | apply below_alloc | apply pw_below_drewN | apply below_drew1 | refine below_set ?_ GE108.out) | exact HB.out))))
                      (case aL => have := LMc18.out; omega)
                      intro v113 w25 ho hb hg hat
                      rw [← Ny112.out] at ho
                      have n0_ := Aside0.mk (blk_grown (g := gb108) (o := .cells #[.slice A107_0 ((rd_T41 l0 x32_2).f0).length c107_0, .float .f64 ((rd_T41 l0 x32_2).f1)] 41 (0, 0)) (by (with_reducible repeat (first | refine blk_drewN ?_ _ | refine blk_drew ?_ | refine blk_alloc ?_ _)); exact BK108.out) hg (Kd.R_away HO_8.out (fun _ hk => hk.1)))
                      have n1_ := Aside0.mk (hb)
                      have n2_ := Aside0.mk (ho)
                      clear BK108
                      clear HB
                      clear HO_8
                      clear HO111
                      have BK108 := n0_
                      have HB := n1_
                      have HO114 := n2_
                      clear n0_ n1_ n2_
                      clear ho hb hg hat
                      refine hK.out _ _ ⟨(blk_cell BK108.out 0).trans rfl, (blk_cell BK108.out 1).trans rfl⟩ (fun hHeld => ?_)
                      clear hK K
                      refine norm_ (a' := ?_) ?_ ?_
                      rotate_left
                      · show Act.put _ (some 44) _ = _
                        simp only [Act.put, List.setIfInBounds_toArray, List.set_cons_zero, List.set_cons_succ, i64_w, i32_w]
                        rfl
                      refine pure_ (i := 9) (N := some 8) (v := ?_) (a' := ?_) #[true, true, true, true, true, true, true, true, true, true] rfl rfl (any_of HT_.out (by kernel_rfl)) (fun _ _ _ h => h) (Or.inl ⟨by rfl, ?_⟩) ?_ ?_
                      rotate_left
                      · intro w'
                        go_simp
                        with_reducible rfl
                      rotate_left
                      · simp only [Act.put, List.setIfInBounds_toArray, List.set_cons_zero, List.set_cons_succ, i64_w, i32_w]
                        rfl
                      refine done_ (done_of HT_.out (by kernel_rfl)) ?_
                      try go_wp2
                      go_roundg k2
                      case measure => have := HK1.out; have := HK2.out; omega
                      case rel => exact ⟨(y112), (wrap64 (x32_2 + 1)), (by first | rfl | (simp; done) | (simp [*]; done)), H', ⟨by have := HK1.out; have := HK2.out; omega⟩, ⟨by (with_reducible repeat (first | apply Kd.R_alloc | apply Kd.R_drewN | apply Kd.R_drew)); exact Kd.R_mono HO114.out (fun _ hk => trivial)⟩, ⟨by repeat (first | (with_reducible first | exact HB.out | apply below_alloc | apply pw_below_drewN | apply below_drew1 | refine below_set ?_ GE108.out) | exact HB.out)⟩⟩
                    · rw [if_neg c18] at H
                      exact absurd H (by simp)
                  · rw [if_neg c16] at H
                    exact absurd H (by simp)
                · rw [if_neg c15] at H
                  exact absurd H (by simp)
              · rw [if_neg c14] at H
                have c14b0 : decide (x32_2 < (l0.length : Int)) = false := decide_eq_false c14
                clear c14
                have H' := Aside0.mk H
                clear H
                go_wp2_with fail
                refine (sortPt_calls w.heap.size _ _ _ _ (by (with_reducible repeat (first | apply Kd.R_alloc | apply Kd.R_drewN | apply Kd.R_drew)); exact HO_8.out) (sortAll_len H'.out)).mono ?_
                rintro e w9 ⟨rfl, x8_2, hperm, hsort, ho, hkept⟩
                have H2 := Aside0.mk (sortAll_some H'.out x8_2 hperm hsort)
                have n0_ := Aside0.mk ho
                have n1_ := Aside0.mk (Below.trans (by repeat (first | (with_reducible first | exact HB.out | apply below_alloc | apply pw_below_drewN | apply below_drew1) | exact HB.out)) (hkept.below (B := w.heap.size) (fun k hk => Kd.R_base HO_8.out k hk) (below_size (by repeat (first | (with_reducible first | exact HB.out | apply below_alloc | apply pw_below_drewN | apply below_drew1) | exact HB.out)))))
                clear H' HO_8 HB hperm hsort ho hkept
                have H' := H2
                have HO_8 := n0_
                have HB := n1_
                clear H2 n0_ n1_
                go_wp2
                go_loopg [11] k2 (fun kq v11 w' => ∃ (x11_3 : Int), v11 = .int .i64 x11_3 ∧ Aside0 (vec_Vector.l2 kq x8_2 x11_3 = some (r1, r2)) ∧ Aside0 (kq ≤ k2) ∧ Aside0 (Kd.R k41 41 w' w.heap.size (fun _ => True) u8 x8_2) ∧ Aside0 (Below w.heap.size w w'))
                case atStart => exact ⟨(1), (by first | rfl | (simp; done) | (simp [*]; done)), H', ⟨Nat.le_refl _⟩, ⟨by (with_reducible repeat (first | apply Kd.R_alloc | apply Kd.R_drewN | apply Kd.R_drew)); exact HO_8.out⟩, ⟨by repeat (first | (with_reducible first | exact HB.out | apply below_alloc | apply pw_below_drewN | apply below_drew1) | exact HB.out)⟩⟩
                case round =>
                  clear H'
                  try clear c1
                  try clear p1
                  try clear q1
                  try clear hx1
                  try clear c2
                  try clear c2b0
                  try clear c2b1
                  try clear p2
                  try clear c3
                  try clear c3b0
                  try clear c4
                  try clear c4b0
                  try clear c5
                  try clear c5b0
                  try clear p6
                  try clear c7
                  try clear c7b0
                  try clear c7b1
                  try clear c10
                  try clear p10
                  try clear q10
                  try clear hx10
                  try clear c14
                  try clear c14b0
                  try clear c15
                  try clear c15b0
                  try clear c16
                  try clear c16b0
                  try clear c18
                  try clear hcz12_0
                  try clear hcz12_1
                  try clear hcz20_0
                  try clear hcz20_1
                  try clear hcz9_0
                  try clear hcz9_1
                  try clear hfz12_0
                  try clear hfz12_1
                  try clear hfz20_0
                  try clear hfz20_1
                  try clear hfz9_0
                  try clear hfz9_1
                  try clear hx103_0
                  try clear hx103_1
                  try clear hx107_0
                  try clear hx107_1
                  try clear p1
                  try clear p10
                  try clear p103
                  try clear p107
                  try clear p2
                  try clear p6
                  try clear q1
                  try clear q10
                  try clear q103
                  try clear q107
                  obtain ⟨x11_3, rfl, HA, HK3, HO_8, HB⟩ := hrel
                  cases gk with
                  | zero => exact absurd HA.out (by simp [vec_Vector.l2])
                  | succ k3 =>
                    have H := HA.out
                    clear HA
                    simp only [vec_Vector.l2] at H
                    by_cases c26 : x11_3 < (x8_2.length : Int)
                    · rw [if_pos c26] at H
                      have c26b0 : decide (x11_3 < (x8_2.length : Int)) = true := decide_eq_true c26
                      clear c26
                      obtain ⟨ji27, hji27⟩ : ∃ j_ : Int, (wrap64 (x11_3 - 1)) = j_ := ⟨_, rfl⟩
                      replace H : (if 0 ≤ (ji27) then (if (ji27) < (x8_2.length : Int) then (if 0 ≤ x11_3 then ((labels_Compare.f ((rd_T41 x8_2 (ji27)).f0) ((rd_T41 x8_2 x11_3).f0)).bind fun t117 => (if t117 = 0 then (some (([] : List (S41)), 150)) else (vec_Vector.l2 k3 x8_2 (wrap64 (x11_3 + 1))))) else (none)) else (none)) else (none)) = some (r1, r2) := by first | (rw [hji27] at H; exact H) | (simp only [hji27] at H ⊢; exact H)
                      have hji27w : (IntKind.i64.wrap (x11_3 - 1)) = ji27 := (i64_w _).trans hji27
                      by_cases c28 : 0 ≤ (ji27)
                      · rw [if_pos c28] at H
                        have c28b0 : decide (0 ≤ (ji27)) = true := decide_eq_true c28
                        clear c28
                        by_cases c29 : (ji27) < (x8_2.length : Int)
                        · rw [if_pos c29] at H
                          have c29b0 : decide ((ji27) < (x8_2.length : Int)) = true := decide_eq_true c29
                          clear c29
                          by_cases c30 : 0 ≤ x11_3
                          · rw [if_pos c30] at H
                            have c30b0 : decide (0 ≤ x11_3) = true := decide_eq_true c30
                            clear c30
                            replace H := Option.bind_eq_some_iff.mp H
                            obtain ⟨t117, A310, H⟩ := H
                            replace H : (if t117 = 0 then (some (([] : List (S41)), 150)) else (vec_Vector.l2 k3 x8_2 (wrap64 (x11_3 + 1)))) = some (r1, r2) := H
                            have A31 := Aside0.mk A310
                            clear A310
                            by_cases c32 : t117 = 0
                            · rw [if_pos c32] at H
                              have c32b0 : (t117 == 0) = true := beq_iff_eq.mpr c32
                              have c32b1 : (t117 != 0) = false := bne_eq_false_iff_eq.mpr c32
                              clear c32
                              simp only [Option.some.injEq, Prod.mk.injEq] at H
                              obtain ⟨rfl, rfl⟩ := H
                              obtain ⟨Ao33, co33, eo33⟩ := Kd.R_slice HO_8.out
                              subst eo33
                              try go_wp2
                              have n0_ := Aside0.mk (Kd.R_drew HO_8.out)
                              have n1_ := Aside0.mk (below_drew1 HB.out)
                              clear HO_8
                              clear HB
                              have HO_8 := n0_
                              have HB := n1_
                              clear n0_ n1_
                              have p115 : 0 ≤ ((ji27) : Int) := of_decide_eq_true (by first | (with_reducible assumption) | assumption)
                              have q115 : (ji27) < (x8_2.length : Int) := of_decide_eq_true (by first | (with_reducible assumption) | assumption)
                              obtain ⟨ad115, A115_0, c115_0, e115, hx115_0, hx115_1, hl115_0, hi115_0⟩ := at_T41 (Kd.R_reads' HO_8.out).2.2 (ji27) p115 q115
                              cases e115
                              obtain ⟨ce115, hce115, hMe115, hcc115⟩ := Kd.R_get HO_8.out z41 (ji27) p115 (by first | exact q115 | exact of_decide_eq_true (by first | (with_reducible assumption) | assumption) | (have e_ := (Kd.R_reads' HO_8.out).1; omega))
                              obtain ⟨ve115_0, rfl, ge115_0⟩ := k41_openM hMe115
                              have hv115_0 := hcc115 0 _ rfl
                              rw [Nat.add_zero] at hv115_0
                              replace hv115_0 := Option.some.inj (hv115_0.symm.trans hx115_0)
                              rw [hv115_0] at ge115_0
                              have HL115_0 := Aside0.mk (show Kd.R k89 89 _ _ _ _ ((rd_T41 x8_2 (ji27)).f0) from ge115_0)
                              clear hv115_0 ge115_0
                              clear hcc115 hce115
                              have HR115_0 := Aside0.mk hi115_0
                              have HC115_0 := Aside0.mk hl115_0
                              clear hi115_0 hl115_0
                              replace p115 := eq_true p115
                              replace q115 := eq_true q115
                              have p116 : 0 ≤ (x11_3 : Int) := of_decide_eq_true (by first | (with_reducible assumption) | assumption)
                              have q116 : x11_3 < (x8_2.length : Int) := of_decide_eq_true (by first | (with_reducible assumption) | assumption)
                              obtain ⟨ad116, A116_0, c116_0, e116, hx116_0, hx116_1, hl116_0, hi116_0⟩ := at_T41 (Kd.R_reads' HO_8.out).2.2 x11_3 p116 q116
                              obtain rfl : ad115 = ad116 := (by injection e116)
                              obtain ⟨ce116, hce116, hMe116, hcc116⟩ := Kd.R_get HO_8.out z41 x11_3 p116 (by first | exact q116 | exact of_decide_eq_true (by first | (with_reducible assumption) | assumption) | (have e_ := (Kd.R_reads' HO_8.out).1; omega))
                              obtain ⟨ve116_0, rfl, ge116_0⟩ := k41_openM hMe116
                              have hv116_0 := hcc116 0 _ rfl
                              rw [Nat.add_zero] at hv116_0
                              replace hv116_0 := Option.some.inj (hv116_0.symm.trans hx116_0)
                              rw [hv116_0] at ge116_0
                              have HL116_0 := Aside0.mk (show Kd.R k89 89 _ _ _ _ ((rd_T41 x8_2 x11_3).f0) from ge116_0)
                              clear hv116_0 ge116_0
                              clear hcc116 hce116
                              have HR116_0 := Aside0.mk hi116_0
                              have HC116_0 := Aside0.mk hl116_0
                              clear hi116_0 hl116_0
                              replace p116 := eq_true p116
                              replace q116 := eq_true q116
                              refine start_ (n := 13) (S := fun w' => w'.cell? (ad115.add (((ji27)).toNat * 2)) = some (.slice A115_0 ((rd_T41 x8_2 (ji27)).f0).length c115_0) ∧ w'.cell? ⟨(ad115.add (((ji27)).toNat * 2)).block, (ad115.add (((ji27)).toNat * 2)).off + 1, none⟩ = some (.float .f64 ((rd_T41 x8_2 (ji27)).f1)) ∧ w'.cell? (ad115.add ((x11_3).toNat * 2)) = some (.slice A116_0 ((rd_T41 x8_2 x11_3).f0).length c116_0) ∧ w'.cell? ⟨(ad115.add ((x11_3).toNat * 2)).block, (ad115.add ((x11_3).toNat * 2)).off + 1, none⟩ = some (.float .f64 ((rd_T41 x8_2 x11_3).f1))) (ds := []) #[false, false, false, false, false, false, false, false, false, false, false, false, false] (by kernel_rfl) rfl rfl ⟨hx115_0, hx115_1, hx116_0, hx116_1⟩ (fun hHeld => ?_); refine with_tabW vec_Vector.tab20 vec_Vector.bits20 (fun HT_ HW_ => ?_)
                              generalize wr.drew = w34 at HO_8 HB HL115_0 HL116_0 HR115_0 HR116_0 hx115_0 hx115_1 hx116_0 hx116_1 hHeld ⊢
                              refine pure_ (i := 0) (N := some 54) (v := ?_) (a' := ?_) #[true, false, false, false, false, false, false, false, false, false, false, false, false] rfl rfl (any_of HT_.out (by kernel_rfl)) (fun _ _ _ h => h) (Or.inl ⟨by rfl, ?_⟩) ?_ ?_
                              rotate_left
                              · intro w'
                                go_simp
                                with_reducible rfl
                              rotate_left
                              · simp only [Act.put, List.setIfInBounds_toArray, List.set_cons_zero, List.set_cons_succ, i64_w, i32_w]
                                rfl
                              refine pure_ (i := 1) (N := some 55) (v := ?_) (a' := ?_) #[true, true, false, false, false, false, false, false, false, false, false, false, false] rfl rfl (any_of HT_.out (by kernel_rfl)) (fun _ _ _ h => h) (Or.inl ⟨by rfl, ?_⟩) ?_ ?_
                              rotate_left
                              · intro w'
                                go_simp
                                with_reducible rfl
                              rotate_left
                              · simp only [Act.put, List.setIfInBounds_toArray, List.set_cons_zero, List.set_cons_succ, i64_w, i32_w]
                                rfl
                              refine pure_ (i := 2) (N := some 56) (v := ?_) (a' := ?_) #[true, true, true, false, false, false, false, false, false, false, false, false, false] rfl rfl (any_of HT_.out (by kernel_rfl)) (fun _ _ _ h => h) (Or.inl ⟨by rfl, ?_⟩) ?_ ?_
                              rotate_left
                              · intro w'
                                go_simp
                                with_reducible rfl
                              rotate_left
                              · simp only [Act.put, List.setIfInBounds_toArray, List.set_cons_zero, List.set_cons_succ, i64_w, i32_w]
                                rfl
                              refine pure_ (i := 3) (N := some 57) (v := ?_) (a' := ?_) #[true, true, true, true, false, false, false, false, false, false, false, false, false] rfl rfl (any_of HT_.out (by kernel_rfl)) (fun _ _ _ h => h) (Or.inl ⟨by rfl, ?_⟩) ?_ ?_
                              rotate_left
                              · intro w'
                                go_simp
                                with_reducible rfl
                              rotate_left
                              · simp only [Act.put, List.setIfInBounds_toArray, List.set_cons_zero, List.set_cons_succ, i64_w, i32_w]
                                rfl
                              refine pure_ (i := 4) (N := some 58) (v := ?_) (a' := ?_) #[true, true, true, true, true, false, false, false, false, false, false, false, false] rfl rfl (any_of HT_.out (by kernel_rfl)) (fun _ _ _ h => h) (Or.inl ⟨by rfl, ?_⟩) ?_ ?_
                              rotate_left
                              · intro w'
                                go_simp
                                with_reducible rfl
                              rotate_left
                              · simp only [Act.put, List.setIfInBounds_toArray, List.set_cons_zero, List.set_cons_succ, i64_w, i32_w]
                                rfl
                              refine pure_ (i := 6) (N := some 60) (v := ?_) (a' := ?_) #[true, true, true, true, true, false, true, false, false, false, false, false, false] rfl rfl (any_of HT_.out (by kernel_rfl)) (fun _ _ _ h => h) (Or.inl ⟨by rfl, ?_⟩) ?_ ?_
                              rotate_left
                              · intro w'
                                go_simp
                                with_reducible rfl
                              rotate_left
                              · simp only [Act.put, List.setIfInBounds_toArray, List.set_cons_zero, List.set_cons_succ, i64_w, i32_w]
                                rfl
                              refine pure_ (i := 7) (N := some 61) (v := ?_) (a' := ?_) #[true, true, true, true, true, false, true, true, false, false, false, false, false] rfl rfl (any_of HT_.out (by kernel_rfl)) (fun _ _ _ h => h) (Or.inl ⟨by rfl, ?_⟩) ?_ ?_
                              rotate_left
                              · intro w'
                                go_simp
                                with_reducible rfl
                              rotate_left
                              · simp only [Act.put, List.setIfInBounds_toArray, List.set_cons_zero, List.set_cons_succ, i64_w, i32_w]
                                rfl
                              refine pure_ (i := 8) (N := some 62) (v := ?_) (a' := ?_) #[true, true, true, true, true, false, true, true, true, false, false, false, false] rfl rfl (any_of HT_.out (by kernel_rfl)) (fun _ _ _ h => h) (Or.inl ⟨by rfl, ?_⟩) ?_ ?_
                              rotate_left
                              · intro w'
                                go_simp
                                with_reducible rfl
                              rotate_left
                              · simp only [Act.put, List.setIfInBounds_toArray, List.set_cons_zero, List.set_cons_succ, i64_w, i32_w]
                                rfl
                              refine pure_ (i := 9) (N := some 63) (v := ?_) (a' := ?_) #[true, true, true, true, true, false, true, true, true, true, false, false, false] rfl rfl (any_of HT_.out (by kernel_rfl)) (fun _ _ _ h => h) (Or.inl ⟨by rfl, ?_⟩) ?_ ?_
                              rotate_left
                              · intro w'
                                go_simp
                                with_reducible rfl
                              rotate_left
                              · simp only [Act.put, List.setIfInBounds_toArray, List.set_cons_zero, List.set_cons_succ, i64_w, i32_w]
                                rfl
                              refine take_ (i := 5) (N := some 59) (v := ?_) (a' := ?_) #[true, true, true, true, true, true, true, true, true, true, false, false, false] rfl rfl (take_ofW HT_.out HW_.out (by kernel_rfl)) (fun _ _ _ h => h) (Or.inl ⟨by rfl, ?_⟩) hHeld ?_ ?_
                              rotate_left
                              · rintro w' ⟨s0, s1, s2, s3⟩
                                go_simp
                                with_reducible rfl
                              rotate_left
                              · simp only [Act.put, List.setIfInBounds_toArray, List.set_cons_zero, List.set_cons_succ, i64_w, i32_w]
                                rfl
                              refine take_ (i := 10) (N := some 64) (v := ?_) (a' := ?_) #[true, true, true, true, true, true, true, true, true, true, true, false, false] rfl rfl (take_ofW HT_.out HW_.out (by kernel_rfl)) (fun _ _ _ h => h) (Or.inl ⟨by rfl, ?_⟩) hHeld ?_ ?_
                              rotate_left
                              · rintro w' ⟨s0, s1, s2, s3⟩
                                go_simp
                                with_reducible rfl
                              rotate_left
                              · simp only [Act.put, List.setIfInBounds_toArray, List.set_cons_zero, List.set_cons_succ, i64_w, i32_w]
                                rfl
                              refine one_ (i := 11) (N := some 65) #[true, true, true, true, true, true, true, true, true, true, true, true, false] rfl rfl (one_of HT_.out (by kernel_rfl)) (by decide) (fun K hK => ?_)
                              refine goes_ Tryz.func61 (by kernel_rfl) rfl #[.slice A115_0 ((rd_T41 x8_2 (ji27)).f0).length c115_0, .slice A116_0 ((rd_T41 x8_2 x11_3).f0).length c116_0] (by rfl) rfl rfl (by (try simp only [List.map_toArray, List.map_cons, List.map_nil]); first | done | (simp only [hji27]; rfl) | rfl | (simp only [List.length_drop, List.length_take]; rfl)) ?_
                              with_reducible refine (labels_Compare.calls _ _ ((rd_T41 x8_2 (ji27)).f0) _ _ ((rd_T41 x8_2 x11_3).f0) t117 _ ?side1 ?side2 ?side3 ?side4 A31.out).mono ?_
                              (case side1 => repeat (first | exact (by repeat (first | (with_reducible exact HR115_0.out) | (with_reducible refine Kd.C_alloc ?_ _) | (with_reducible refine Kd.C_drewN ?_ _) | (with_reducible refine Kd.C_drew ?_) | exact HR115_0.out)) | (with_reducible refine Kd.C_alloc ?_ _) | (with_reducible refine Kd.C_drewN ?_ _) | (with_reducible refine Kd.C_drew ?_)))
                              (case side2 => exact HC115_0.out)
                              (case side3 => repeat (first | exact (by repeat (first | (with_reducible exact HR116_0.out) | (with_reducible refine Kd.C_alloc ?_ _) | (with_reducible refine Kd.C_drewN ?_ _) | (with_reducible refine Kd.C_drew ?_) | exact HR116_0.out)) | (with_reducible refine Kd.C_alloc ?_ _) | (with_reducible refine Kd.C_drewN ?_ _) | (with_reducible refine Kd.C_drew ?_)))
                              (case side4 => exact HC116_0.out)
                              rintro e w35 ⟨rfl, hb⟩
                              have HS0_ := (hb.cell (World.block_lt_of_cell? _ _ (hHeld.1))).trans (hHeld.1)
                              have HS1_ := (hb.cell (World.block_lt_of_cell? _ _ (hHeld.2.1))).trans (hHeld.2.1)
                              have HS2_ := (hb.cell (World.block_lt_of_cell? _ _ (hHeld.2.2.1))).trans (hHeld.2.2.1)
                              have HS3_ := (hb.cell (World.block_lt_of_cell? _ _ (hHeld.2.2.2))).trans (hHeld.2.2.2)
                              refine ⟨_, rfl, ?_⟩
                              have n0_ := Aside0.mk (Kd.R_below (by (with_reducible repeat (first | apply Kd.R_alloc | apply Kd.R_drewN | apply Kd.R_drew)); exact HO_8.out) hb)
                              have n1_ := Aside0.mk (Kd.R_below (by (with_reducible repeat (first | apply Kd.R_alloc | apply Kd.R_drewN | apply Kd.R_drew)); exact HL115_0.out) hb)
                              have n2_ := Aside0.mk (Kd.R_below (by (with_reducible repeat (first | apply Kd.R_alloc | apply Kd.R_drewN | apply Kd.R_drew)); exact HL116_0.out) hb)
                              have n3_ := Aside0.mk (Kd.C_below (by repeat (first | (with_reducible exact HR115_0.out) | (with_reducible refine Kd.C_alloc ?_ _) | (with_reducible refine Kd.C_drewN ?_ _) | (with_reducible refine Kd.C_drew ?_) | exact HR115_0.out)) hb)
                              have n4_ := Aside0.mk (Kd.C_below (by repeat (first | (with_reducible exact HR116_0.out) | (with_reducible refine Kd.C_alloc ?_ _) | (with_reducible refine Kd.C_drewN ?_ _) | (with_reducible refine Kd.C_drew ?_) | exact HR116_0.out)) hb)
                              have n5_ := Aside0.mk (below_step (by repeat (first | (with_reducible first | exact HB.out | apply below_alloc | apply pw_below_drewN | apply below_drew1) | exact HB.out)) hb)
                              clear HO_8
                              clear HL115_0
                              clear HL116_0
                              clear HR115_0
                              clear HR116_0
                              clear HB
                              have HO_8 := n0_
                              have HL115_0 := n1_
                              have HL116_0 := n2_
                              have HR115_0 := n3_
                              have HR116_0 := n4_
                              have HB := n5_
                              clear n0_ n1_ n2_ n3_ n4_ n5_
                              (try clear hb)
                              (try clear hb2)
                              (try clear hk)
                              (try clear hi)
                              refine hK.out _ _ ⟨HS0_, HS1_, HS2_, HS3_⟩ (fun hHeld => ?_)
                              clear hK K
                              refine norm_ (a' := ?_) ?_ ?_
                              rotate_left
                              · show Act.put _ (some 65) _ = _
                                simp only [Act.put, List.setIfInBounds_toArray, List.set_cons_zero, List.set_cons_succ, i64_w, i32_w]
                                rfl
                              refine pure_ (i := 12) (N := some 66) (v := ?_) (a' := ?_) #[true, true, true, true, true, true, true, true, true, true, true, true, true] rfl rfl (any_of HT_.out (by kernel_rfl)) (fun _ _ _ h => h) (Or.inl ⟨by rfl, ?_⟩) ?_ ?_
                              rotate_left
                              · intro w'
                                go_simp
                                with_reducible rfl
                              rotate_left
                              · simp only [Act.put, List.setIfInBounds_toArray, List.set_cons_zero, List.set_cons_succ, i64_w, i32_w]
                                rfl
                              refine done_ (done_of HT_.out (by kernel_rfl)) ?_
                              try go_wp2
                              go_ret2
                              exact ⟨_, by first | rfl | (simp [errW_none, errW_some] <;> rfl) | (simp only [← hji27]; first | rfl | (simp [errW_none, errW_some] <;> rfl)) | (simp [*, errW_none, errW_some] <;> rfl), by first | exact Kd.R_nil _ _ _ _ _ | exact Kd.N_nil _ _ _ _ _ | exact Kd.V_nil _ _ _ _ _ | exact Kd.Q_nil _ _ _ _ _ | exact Kd.S_nil _ _ _ _ _, by repeat (first | (with_reducible first | exact HB.out | apply below_alloc | apply pw_below_drewN | apply below_drew1) | exact HB.out)⟩
                            · rw [if_neg c32] at H
                              have c32b0 : (t117 == 0) = false := beq_eq_false_iff_ne.mpr c32
                              have c32b1 : (t117 != 0) = true := bne_iff_ne.mpr c32
                              have H' := Aside0.mk H
                              clear H
                              obtain ⟨Ao36, co36, eo36⟩ := Kd.R_slice HO_8.out
                              subst eo36
                              try go_wp2
                              have n0_ := Aside0.mk (Kd.R_drew HO_8.out)
                              have n1_ := Aside0.mk (below_drew1 HB.out)
                              clear HO_8
                              clear HB
                              have HO_8 := n0_
                              have HB := n1_
                              clear n0_ n1_
                              have p115 : 0 ≤ ((ji27) : Int) := of_decide_eq_true (by first | (with_reducible assumption) | assumption)
                              have q115 : (ji27) < (x8_2.length : Int) := of_decide_eq_true (by first | (with_reducible assumption) | assumption)
                              obtain ⟨ad115, A115_0, c115_0, e115, hx115_0, hx115_1, hl115_0, hi115_0⟩ := at_T41 (Kd.R_reads' HO_8.out).2.2 (ji27) p115 q115
                              cases e115
                              obtain ⟨ce115, hce115, hMe115, hcc115⟩ := Kd.R_get HO_8.out z41 (ji27) p115 (by first | exact q115 | exact of_decide_eq_true (by first | (with_reducible assumption) | assumption) | (have e_ := (Kd.R_reads' HO_8.out).1; omega))
                              obtain ⟨ve115_0, rfl, ge115_0⟩ := k41_openM hMe115
                              have hv115_0 := hcc115 0 _ rfl
                              rw [Nat.add_zero] at hv115_0
                              replace hv115_0 := Option.some.inj (hv115_0.symm.trans hx115_0)
                              rw [hv115_0] at ge115_0
                              have HL115_0 := Aside0.mk (show Kd.R k89 89 _ _ _ _ ((rd_T41 x8_2 (ji27)).f0) from ge115_0)
                              clear hv115_0 ge115_0
                              clear hcc115 hce115
                              have HR115_0 := Aside0.mk hi115_0
                              have HC115_0 := Aside0.mk hl115_0
                              clear hi115_0 hl115_0
                              replace p115 := eq_true p115
                              replace q115 := eq_true q115
                              have p116 : 0 ≤ (x11_3 : Int) := of_decide_eq_true (by first | (with_reducible assumption) | assumption)
                              have q116 : x11_3 < (x8_2.length : Int) := of_decide_eq_true (by first | (with_reducible assumption) | assumption)
                              obtain ⟨ad116, A116_0, c116_0, e116, hx116_0, hx116_1, hl116_0, hi116_0⟩ := at_T41 (Kd.R_reads' HO_8.out).2.2 x11_3 p116 q116
                              obtain rfl : ad115 = ad116 := (by injection e116)
                              obtain ⟨ce116, hce116, hMe116, hcc116⟩ := Kd.R_get HO_8.out z41 x11_3 p116 (by first | exact q116 | exact of_decide_eq_true (by first | (with_reducible assumption) | assumption) | (have e_ := (Kd.R_reads' HO_8.out).1; omega))
                              obtain ⟨ve116_0, rfl, ge116_0⟩ := k41_openM hMe116
                              have hv116_0 := hcc116 0 _ rfl
                              rw [Nat.add_zero] at hv116_0
                              replace hv116_0 := Option.some.inj (hv116_0.symm.trans hx116_0)
                              rw [hv116_0] at ge116_0
                              have HL116_0 := Aside0.mk (show Kd.R k89 89 _ _ _ _ ((rd_T41 x8_2 x11_3).f0) from ge116_0)
                              clear hv116_0 ge116_0
                              clear hcc116 hce116
                              have HR116_0 := Aside0.mk hi116_0
                              have HC116_0 := Aside0.mk hl116_0
                              clear hi116_0 hl116_0
                              replace p116 := eq_true p116
                              replace q116 := eq_true q116
                              refine start_ (n := 13) (S := fun w' => w'.cell? (ad115.add (((ji27)).toNat * 2)) = some (.slice A115_0 ((rd_T41 x8_2 (ji27)).f0).length c115_0) ∧ w'.cell? ⟨(ad115.add (((ji27)).toNat * 2)).block, (ad115.add (((ji27)).toNat * 2)).off + 1, none⟩ = some (.float .f64 ((rd_T41 x8_2 (ji27)).f1)) ∧ w'.cell? (ad115.add ((x11_3).toNat * 2)) = some (.slice A116_0 ((rd_T41 x8_2 x11_3).f0).length c116_0) ∧ w'.cell? ⟨(ad115.add ((x11_3).toNat * 2)).block, (ad115.add ((x11_3).toNat * 2)).off + 1, none⟩ = some (.float .f64 ((rd_T41 x8_2 x11_3).f1))) (ds := []) #[false, false, false, false, false, false, false, false, false, false, false, false, false] (by kernel_rfl) rfl rfl ⟨hx115_0, hx115_1, hx116_0, hx116_1⟩ (fun hHeld => ?_); refine with_tabW vec_Vector.tab20 vec_Vector.bits20 (fun HT_ HW_ => ?_)
                              generalize wr.drew = w37 at HO_8 HB HL115_0 HL116_0 HR115_0 HR116_0 hx115_0 hx115_1 hx116_0 hx116_1 hHeld ⊢
                              refine pure_ (i := 0) (N := some 54) (v := ?_) (a' := ?_) #[true, false, false, false, false, false, false, false, false, false, false, false, false] rfl rfl (any_of HT_.out (by kernel_rfl)) (fun _ _ _ h => h) (Or.inl ⟨by rfl, ?_⟩) ?_ ?_
                              rotate_left
                              · intro w'
                                go_simp
                                with_reducible rfl
                              rotate_left
                              · simp only [Act.put, List.setIfInBounds_toArray, List.set_cons_zero, List.set_cons_succ, i64_w, i32_w]
                                rfl
                              refine pure_ (i := 1) (N := some 55) (v := ?_) (a' := ?_) #[true, true, false, false, false, false, false, false, false, false, false, false, false] rfl rfl (any_of HT_.out (by kernel_rfl)) (fun _ _ _ h => h) (Or.inl ⟨by rfl, ?_⟩) ?_ ?_
                              rotate_left
                              · intro w'
                                go_simp
                                with_reducible rfl
                              rotate_left
                              · simp only [Act.put, List.setIfInBounds_toArray, List.set_cons_zero, List.set_cons_succ, i64_w, i32_w]
                                rfl
                              refine pure_ (i := 2) (N := some 56) (v := ?_) (a' := ?_) #[true, true, true, false, false, false, false, false, false, false, false, false, false] rfl rfl (any_of HT_.out (by kernel_rfl)) (fun _ _ _ h => h) (Or.inl ⟨by rfl, ?_⟩) ?_ ?_
                              rotate_left
                              · intro w'
                                go_simp
                                with_reducible rfl
                              rotate_left
                              · simp only [Act.put, List.setIfInBounds_toArray, List.set_cons_zero, List.set_cons_succ, i64_w, i32_w]
                                rfl
                              refine pure_ (i := 3) (N := some 57) (v := ?_) (a' := ?_) #[true, true, true, true, false, false, false, false, false, false, false, false, false] rfl rfl (any_of HT_.out (by kernel_rfl)) (fun _ _ _ h => h) (Or.inl ⟨by rfl, ?_⟩) ?_ ?_
                              rotate_left
                              · intro w'
                                go_simp
                                with_reducible rfl
                              rotate_left
                              · simp only [Act.put, List.setIfInBounds_toArray, List.set_cons_zero, List.set_cons_succ, i64_w, i32_w]
                                rfl
                              refine pure_ (i := 4) (N := some 58) (v := ?_) (a' := ?_) #[true, true, true, true, true, false, false, false, false, false, false, false, false] rfl rfl (any_of HT_.out (by kernel_rfl)) (fun _ _ _ h => h) (Or.inl ⟨by rfl, ?_⟩) ?_ ?_
                              rotate_left
                              · intro w'
                                go_simp
                                with_reducible rfl
                              rotate_left
                              · simp only [Act.put, List.setIfInBounds_toArray, List.set_cons_zero, List.set_cons_succ, i64_w, i32_w]
                                rfl
                              refine pure_ (i := 6) (N := some 60) (v := ?_) (a' := ?_) #[true, true, true, true, true, false, true, false, false, false, false, false, false] rfl rfl (any_of HT_.out (by kernel_rfl)) (fun _ _ _ h => h) (Or.inl ⟨by rfl, ?_⟩) ?_ ?_
                              rotate_left
                              · intro w'
                                go_simp
                                with_reducible rfl
                              rotate_left
                              · simp only [Act.put, List.setIfInBounds_toArray, List.set_cons_zero, List.set_cons_succ, i64_w, i32_w]
                                rfl
                              refine pure_ (i := 7) (N := some 61) (v := ?_) (a' := ?_) #[true, true, true, true, true, false, true, true, false, false, false, false, false] rfl rfl (any_of HT_.out (by kernel_rfl)) (fun _ _ _ h => h) (Or.inl ⟨by rfl, ?_⟩) ?_ ?_
                              rotate_left
                              · intro w'
                                go_simp
                                with_reducible rfl
                              rotate_left
                              · simp only [Act.put, List.setIfInBounds_toArray, List.set_cons_zero, List.set_cons_succ, i64_w, i32_w]
                                rfl
                              refine pure_ (i := 8) (N := some 62) (v := ?_) (a' := ?_) #[true, true, true, true, true, false, true, true, true, false, false, false, false] rfl rfl (any_of HT_.out (by kernel_rfl)) (fun _ _ _ h => h) (Or.inl ⟨by rfl, ?_⟩) ?_ ?_
                              rotate_left
                              · intro w'
                                go_simp
                                with_reducible rfl
                              rotate_left
                              · simp only [Act.put, List.setIfInBounds_toArray, List.set_cons_zero, List.set_cons_succ, i64_w, i32_w]
                                rfl
                              refine pure_ (i := 9) (N := some 63) (v := ?_) (a' := ?_) #[true, true, true, true, true, false, true, true, true, true, false, false, false] rfl rfl (any_of HT_.out (by kernel_rfl)) (fun _ _ _ h => h) (Or.inl ⟨by rfl, ?_⟩) ?_ ?_
                              rotate_left
                              · intro w'
                                go_simp
                                with_reducible rfl
                              rotate_left
                              · simp only [Act.put, List.setIfInBounds_toArray, List.set_cons_zero, List.set_cons_succ, i64_w, i32_w]
                                rfl
                              refine take_ (i := 5) (N := some 59) (v := ?_) (a' := ?_) #[true, true, true, true, true, true, true, true, true, true, false, false, false] rfl rfl (take_ofW HT_.out HW_.out (by kernel_rfl)) (fun _ _ _ h => h) (Or.inl ⟨by rfl, ?_⟩) hHeld ?_ ?_
                              rotate_left
                              · rintro w' ⟨s0, s1, s2, s3⟩
                                go_simp
                                with_reducible rfl
                              rotate_left
                              · simp only [Act.put, List.setIfInBounds_toArray, List.set_cons_zero, List.set_cons_succ, i64_w, i32_w]
                                rfl
                              refine take_ (i := 10) (N := some 64) (v := ?_) (a' := ?_) #[true, true, true, true, true, true, true, true, true, true, true, false, false] rfl rfl (take_ofW HT_.out HW_.out (by kernel_rfl)) (fun _ _ _ h => h) (Or.inl ⟨by rfl, ?_⟩) hHeld ?_ ?_
                              rotate_left
                              · rintro w' ⟨s0, s1, s2, s3⟩
                                go_simp
                                with_reducible rfl
                              rotate_left
                              · simp only [Act.put, List.setIfInBounds_toArray, List.set_cons_zero, List.set_cons_succ, i64_w, i32_w]
                                rfl
                              refine one_ (i := 11) (N := some 65) #[true, true, true, true, true, true, true, true, true, true, true, true, false] rfl rfl (one_of HT_.out (by kernel_rfl)) (by decide) (fun K hK => ?_)
                              refine goes_ Tryz.func61 (by kernel_rfl) rfl #[.slice A115_0 ((rd_T41 x8_2 (ji27)).f0).length c115_0, .slice A116_0 ((rd_T41 x8_2 x11_3).f0).length c116_0] (by rfl) rfl rfl (by (try simp only [List.map_toArray, List.map_cons, List.map_nil]); first | done | (simp only [hji27]; rfl) | rfl | (simp only [List.length_drop, List.length_take]; rfl)) ?_
                              with_reducible refine (labels_Compare.calls _ _ ((rd_T41 x8_2 (ji27)).f0) _ _ ((rd_T41 x8_2 x11_3).f0) t117 _ ?side1 ?side2 ?side3 ?side4 A31.out).mono ?_
                              (case side1 => repeat (first | exact (by repeat (first | (with_reducible exact HR115_0.out) | (with_reducible refine Kd.C_alloc ?_ _) | (with_reducible refine Kd.C_drewN ?_ _) | (with_reducible refine Kd.C_drew ?_) | exact HR115_0.out)) | (with_reducible refine Kd.C_alloc ?_ _) | (with_reducible refine Kd.C_drewN ?_ _) | (with_reducible refine Kd.C_drew ?_)))
                              (case side2 => exact HC115_0.out)
                              (case side3 => repeat (first | exact (by repeat (first | (with_reducible exact HR116_0.out) | (with_reducible refine Kd.C_alloc ?_ _) | (with_reducible refine Kd.C_drewN ?_ _) | (with_reducible refine Kd.C_drew ?_) | exact HR116_0.out)) | (with_reducible refine Kd.C_alloc ?_ _) | (with_reducible refine Kd.C_drewN ?_ _) | (with_reducible refine Kd.C_drew ?_)))
                              (case side4 => exact HC116_0.out)
                              rintro e w38 ⟨rfl, hb⟩
                              have HS0_ := (hb.cell (World.block_lt_of_cell? _ _ (hHeld.1))).trans (hHeld.1)
                              have HS1_ := (hb.cell (World.block_lt_of_cell? _ _ (hHeld.2.1))).trans (hHeld.2.1)
                              have HS2_ := (hb.cell (World.block_lt_of_cell? _ _ (hHeld.2.2.1))).trans (hHeld.2.2.1)
                              have HS3_ := (hb.cell (World.block_lt_of_cell? _ _ (hHeld.2.2.2))).trans (hHeld.2.2.2)
                              refine ⟨_, rfl, ?_⟩
                              have n0_ := Aside0.mk (Kd.R_below (by (with_reducible repeat (first | apply Kd.R_alloc | apply Kd.R_drewN | apply Kd.R_drew)); exact HO_8.out) hb)
                              have n1_ := Aside0.mk (Kd.R_below (by (with_reducible repeat (first | apply Kd.R_alloc | apply Kd.R_drewN | apply Kd.R_drew)); exact HL115_0.out) hb)
                              have n2_ := Aside0.mk (Kd.R_below (by (with_reducible repeat (first | apply Kd.R_alloc | apply Kd.R_drewN | apply Kd.R_drew)); exact HL116_0.out) hb)
                              have n3_ := Aside0.mk (Kd.C_below (by repeat (first | (with_reducible exact HR115_0.out) | (with_reducible refine Kd.C_alloc ?_ _) | (with_reducible refine Kd.C_drewN ?_ _) | (with_reducible refine Kd.C_drew ?_) | exact HR115_0.out)) hb)
                              have n4_ := Aside0.mk (Kd.C_below (by repeat (first | (with_reducible exact HR116_0.out) | (with_reducible refine Kd.C_alloc ?_ _) | (with_reducible refine Kd.C_drewN ?_ _) | (with_reducible refine Kd.C_drew ?_) | exact HR116_0.out)) hb)
                              have n5_ := Aside0.mk (below_step (by repeat (first | (with_reducible first | exact HB.out | apply below_alloc | apply pw_below_drewN | apply below_drew1) | exact HB.out)) hb)
                              clear HO_8
                              clear HL115_0
                              clear HL116_0
                              clear HR115_0
                              clear HR116_0
                              clear HB
                              have HO_8 := n0_
                              have HL115_0 := n1_
                              have HL116_0 := n2_
                              have HR115_0 := n3_
                              have HR116_0 := n4_
                              have HB := n5_
                              clear n0_ n1_ n2_ n3_ n4_ n5_
                              (try clear hb)
                              (try clear hb2)
                              (try clear hk)
                              (try clear hi)
                              refine hK.out _ _ ⟨HS0_, HS1_, HS2_, HS3_⟩ (fun hHeld => ?_)
                              clear hK K
                              refine norm_ (a' := ?_) ?_ ?_
                              rotate_left
                              · show Act.put _ (some 65) _ = _
                                simp only [Act.put, List.setIfInBounds_toArray, List.set_cons_zero, List.set_cons_succ, i64_w, i32_w]
                                rfl
                              refine pure_ (i := 12) (N := some 66) (v := ?_) (a' := ?_) #[true, true, true, true, true, true, true, true, true, true, true, true, true] rfl rfl (any_of HT_.out (by kernel_rfl)) (fun _ _ _ h => h) (Or.inl ⟨by rfl, ?_⟩) ?_ ?_
                              rotate_left
                              · intro w'
                                go_simp
                                with_reducible rfl
                              rotate_left
                              · simp only [Act.put, List.setIfInBounds_toArray, List.set_cons_zero, List.set_cons_succ, i64_w, i32_w]
                                rfl
                              refine done_ (done_of HT_.out (by kernel_rfl)) ?_
                              try go_wp2
                              go_roundg k3
                              case measure => have := HK1.out; have := HK2.out; have := HK3.out; omega
                              case rel => exact ⟨(wrap64 (x11_3 + 1)), (by first | rfl | (simp; done) | (simp [*]; done)), H', ⟨by have := HK1.out; have := HK2.out; have := HK3.out; omega⟩, ⟨by (with_reducible repeat (first | apply Kd.R_alloc | apply Kd.R_drewN | apply Kd.R_drew)); exact HO_8.out⟩, ⟨by repeat (first | (with_reducible first | exact HB.out | apply below_alloc | apply pw_below_drewN | apply below_drew1) | exact HB.out)⟩⟩
                          · rw [if_neg c30] at H
                            exact absurd H (by simp)
                        · rw [if_neg c29] at H
                          exact absurd H (by simp)
                      · rw [if_neg c28] at H
                        exact absurd H (by simp)
                    · rw [if_neg c26] at H
                      have c26b0 : decide (x11_3 < (x8_2.length : Int)) = false := decide_eq_false c26
                      clear c26
                      simp only [Option.some.injEq, Prod.mk.injEq] at H
                      obtain ⟨rfl, rfl⟩ := H
                      obtain ⟨Ao39, co39, eo39⟩ := Kd.R_slice HO_8.out
                      subst eo39
                      go_wp2
                      go_ret2
                      exact ⟨_, by first | rfl | (simp [errW_none, errW_some] <;> rfl) | (simp [*, errW_none, errW_some] <;> rfl), by (with_reducible repeat (first | apply Kd.R_alloc | apply Kd.R_drewN | apply Kd.R_drew)); exact HO_8.out, by repeat (first | (with_reducible first | exact HB.out | apply below_alloc | apply pw_below_drewN | apply below_drew1) | exact HB.out)⟩

end Go.Proofs.YtoncpeadbhgmaaaGreatDoor.G

set_option linter.unusedVariables false
set_option linter.unusedSimpArgs false
namespace Go.Proofs.YtoncpeadbhgmaaaGreatDoor.G
open Go.RowKit Go.Sort Go.Shelf Go.Proofs.YtoncpeadbhgmaaaGreatDoorW.PrintWords Go.Proofs.YtoncpeadbhgmaaaGreatDoorW.PrintLast Go.Proofs.YtoncpeadbhgmaaaGreatDoorW.PrintMore

theorem grown_none {w w' : World} (h : Below w.heap.size w w') : w.grownBy w' none := ⟨h.os, h.tape, h.output, h.size, fun k hk _ => h.block k hk⟩
theorem grown_below {w w' : World} {g : Option Nat} {B : Nat} (h : w.grownBy w' g) (hB : ∀ k, g = some k → B ≤ k) (hs : B ≤ w.heap.size) : Below B w w' :=
  ⟨h.os, h.tape, h.output, h.size, fun k hk => h.block k (by omega) (fun e => by have := hB k e.symm; omega)⟩
/-- A row of one's own, over a write into a block of another element type. -/
theorem R_kept {α : Type} {d : Kd α} {e : Nat} {w w1 : World} {base : Nat} {ok : Nat → Prop} {v : Value} {xs : List α} (h : d.R e w base ok v xs) {g : Option Nat} (hg : w.grownBy w1 g)
    (hne : ∀ k q c, g = some k → q ∈ e :: d.E → w.heap[k]? ≠ some (.cells c q (0, 0))) : d.R e w1 base ok v xs :=
  Kd.R_mono (Kd.R_move (Kd.R_bound h) (fun k hk => hg.block k hk.2.2.1 (fun he => by
    obtain ⟨_, _, _, q, hq, c, hc⟩ := hk
    exact hne k q c he.symm hq hc))) (fun _ hk => hk.1)

abbrev SL := Option Addr × Nat × Nat
def sv (u : SL) : Value := .slice u.1 u.2.1 u.2.2
def slK : Kd SL := Kd.scalar sv (fun _ => rfl)
def okI (B : Nat) (v : Value) (k : Nat) : Prop := k < B ∨ some k = v.ownBlock
structure Rows (B lim : Nat) (w : World) (v : Value) (outs : List (List S41)) : Prop where mk_ ::
  ex : ∃ vs : List SL, vs.length = outs.length ∧ slK.R 22 w B (fun _ => True) v vs ∧ (∀ (i : Nat) (u : SL) (o : List S41), vs[i]? = some u → outs[i]? = some o → Kd.N k41 41 w B (okI B (sv u)) (sv u) o) ∧
    (∀ (i j : Nat) (ui uj : SL), i ≠ j → vs[i]? = some ui → vs[j]? = some uj → ∀ b, (sv ui).ownBlock = some b → (sv uj).ownBlock ≠ some b) ∧ ∀ (i : Nat) (u : SL), vs[i]? = some u → ∀ b, (sv u).ownBlock = some b → b < lim

theorem inner_kept {B : Nat} {w w1 : World} {u : SL} {o : List S41} (h : Kd.N k41 41 w B (okI B (sv u)) (sv u) o) {g : Option Nat} (hg : w.grownBy w1 g) (hB : ∀ k, g = some k → B ≤ k) (hne : ∀ k, g = some k → (sv u).ownBlock ≠ some k) :
    Kd.N k41 41 w1 B (okI B (sv u)) (sv u) o := by
  refine Kd.N_step h (fun k hk hlt => hg.block k hlt (fun e => ?_))
  rcases hk with hk | hk
  · have := hB k e.symm; omega
  · exact hne k e.symm hk.symm
theorem rows_kept {B lim : Nat} {w w1 : World} {v : Value} {outs : List (List S41)} (h : Rows B lim w v outs) {g : Option Nat} (hg : w.grownBy w1 g) (hB : ∀ k, g = some k → B ≤ k)
    (hne : ∀ k q c, g = some k → q = 22 ∨ q = 41 → w.heap[k]? ≠ some (.cells c q (0, 0))) : Rows B lim w1 v outs := by
  obtain ⟨vs, h1, h2, h3, h4, h5⟩ := h.ex
  refine ⟨vs, h1, R_kept h2 hg (fun k q c hk hq => hne k q c hk (.inl (by simpa [slK, Kd.scalar] using hq))), fun i u o hu ho => inner_kept (h3 i u o hu ho) hg hB (fun k hk he => ?_), h4, h5⟩
  obtain ⟨c, hc⟩ := Kd.N_typed (h3 i u o hu ho) k he
  exact hne k 41 c hk (.inr rfl) hc
theorem rows_nil (B lim : Nat) (w : World) : Rows B lim w (.slice none 0 0) [] := ⟨[], rfl, Kd.R_nil _ _ _ _ _, fun i u o hu => by simp at hu, fun i j ui uj _ hu => by simp at hu, fun i u hu => by simp at hu⟩
theorem rows_lim {B lim : Nat} {w : World} {v : Value} {outs : List (List S41)} (h : Rows B lim w v outs) : Rows B w.heap.size w v outs := by
  obtain ⟨vs, h1, h2, h3, h4, _⟩ := h.ex
  refine ⟨vs, h1, h2, h3, h4, fun i u hu b hb => ?_⟩
  have hi := (List.getElem?_eq_some_iff.1 hu).1
  exact Kd.N_lt (h3 i u (outs[i]'(by omega)) hu (List.getElem?_eq_getElem _)) b hb
/-- A nil row is put behind. -/
theorem rows_app {B lim : Nat} {w w1 : World} {v v1 : Value} {outs : List (List S41)} (vs : List SL) (h1 : vs.length = outs.length) (h3 : ∀ (i : Nat) (u : SL) (o : List S41), vs[i]? = some u → outs[i]? = some o → Kd.N k41 41 w B (okI B (sv u)) (sv u) o)
    (h4 : ∀ (i j : Nat) (ui uj : SL), i ≠ j → vs[i]? = some ui → vs[j]? = some uj → ∀ b, (sv ui).ownBlock = some b → (sv uj).ownBlock ≠ some b)
    (h5 : ∀ (i : Nat) (u : SL), vs[i]? = some u → ∀ b, (sv u).ownBlock = some b → b < lim)
    (h2 : slK.R 22 w B (fun _ => True) v vs) (hg : w.grownBy w1 v.ownBlock) (h : slK.R 22 w1 B (fun _ => True) v1 (vs ++ [(none, 0, 0)])) : Rows B lim w1 v1 (outs ++ [[]]) := by
  have hB : ∀ k, v.ownBlock = some k → B ≤ k := Kd.R_base h2
  have hT : ∀ k, v.ownBlock = some k → ∃ c, w.heap[k]? = some (.cells c 22 (0, 0)) := Kd.R_typed h2
  refine ⟨vs ++ [(none, 0, 0)], by simp [h1], h, fun i u o hu ho => ?_, fun i j ui uj hij hu hj b hb => ?_, fun i u hu b hb => ?_⟩
  · by_cases hi : i < vs.length
    · rw [List.getElem?_append_left hi] at hu
      rw [List.getElem?_append_left (by omega)] at ho
      refine inner_kept (h3 i u o hu ho) hg hB (fun k hk he => ?_)
      obtain ⟨c, hc⟩ := Kd.N_typed (h3 i u o hu ho) k he
      obtain ⟨c', hc'⟩ := hT k hk
      rw [hc] at hc'; simp at hc'
    · rw [List.getElem?_append_right (by omega)] at hu ho
      have : i - vs.length = 0 := by
        have := (List.getElem?_eq_some_iff.1 hu).1; simp at this; omega
      have hi2 : i - outs.length = 0 := by omega
      rw [this] at hu; rw [hi2] at ho
      simp at hu ho
      subst hu; subst ho
      exact Kd.N_nil _ _ _ _ _
  · by_cases hi : i < vs.length
    · rw [List.getElem?_append_left hi] at hu
      by_cases hj2 : j < vs.length
      · rw [List.getElem?_append_left hj2] at hj
        exact h4 i j ui uj hij hu hj b hb
      · rw [List.getElem?_append_right (by omega)] at hj
        have : j - vs.length = 0 := by
          have := (List.getElem?_eq_some_iff.1 hj).1; simp at this; omega
        rw [this] at hj
        simp at hj
        subst hj
        simp [sv, Value.ownBlock]
    · rw [List.getElem?_append_right (by omega)] at hu
      have : i - vs.length = 0 := by
        have := (List.getElem?_eq_some_iff.1 hu).1; simp at this; omega
      rw [this] at hu
      simp at hu
      subst hu
      simp [sv, Value.ownBlock] at hb
  · by_cases hi : i < vs.length
    · rw [List.getElem?_append_left hi] at hu
      exact h5 i u hu b hb
    · rw [List.getElem?_append_right (by omega)] at hu
      have : i - vs.length = 0 := by
        have := (List.getElem?_eq_some_iff.1 hu).1; simp at this; omega
      rw [this] at hu
      simp at hu
      subst hu
      simp [sv, Value.ownBlock] at hb
/-- An inner row has grown; the row of rows is told of it. -/
theorem rows_put {B : Nat} {w w1 : World} {gb cap n : Nat} {outs : List (List S41)} {vs : List SL} (h1 : vs.length = outs.length) (h3 : ∀ (i : Nat) (u : SL) (o : List S41), vs[i]? = some u → outs[i]? = some o → Kd.N k41 41 w B (okI B (sv u)) (sv u) o)
    (h4 : ∀ (i j : Nat) (ui uj : SL), i ≠ j → vs[i]? = some ui → vs[j]? = some uj → ∀ b, (sv ui).ownBlock = some b → (sv uj).ownBlock ≠ some b)
    (h2 : slK.R 22 w B (fun _ => True) (.slice (some ⟨gb, 0, none⟩) n cap) vs) {j : Nat} {u u' : SL} {o o' : List S41} (hu : vs[j]? = some u) (ho : outs[j]? = some o) (hg : w.grownBy w1 (sv u).ownBlock)
    (hat : (sv u').ownBlock = (sv u).ownBlock ∨ ∃ b, (sv u').ownBlock = some b ∧ w.heap.size ≤ b) (h : Kd.N k41 41 w1 B (okI B (sv u')) (sv u') o') :
    Rows B (w1.setCell ⟨gb, j, none⟩ (sv u')).heap.size (w1.setCell ⟨gb, j, none⟩ (sv u')) (.slice (some ⟨gb, 0, none⟩) n cap) (outs.set j o') ∧ w1.grownBy (w1.setCell ⟨gb, j, none⟩ (sv u')) (some gb) := by
  have hT := Kd.R_typed h2 gb (by simp [Value.ownBlock])
  have hBg := Kd.R_base h2 gb (by simp [Value.ownBlock])
  have hBu := Kd.N_base (h3 j u o hu ho)
  have hTu := Kd.N_typed (h3 j u o hu ho)
  have h2' : slK.R 22 w1 B (fun _ => True) (.slice (some ⟨gb, 0, none⟩) n cap) vs := R_kept h2 hg (fun k q c hk hq => by
    have hq' : q = 22 := by simpa [slK, Kd.scalar] using hq
    obtain ⟨c', hc'⟩ := hTu k hk
    rw [hc']; subst hq'; simp)
  obtain ⟨rfl, _⟩ := Kd.R_reads' h2'
  obtain ⟨hR, hg2⟩ := Kd.R_put h2' (j : Int) u'
  simp only [Int.toNat_natCast] at hR hg2
  suffices h : (∀ (i : Nat) (u : SL) (o : List S41), (vs.set j u')[i]? = some u → (outs.set j o')[i]? = some o → Kd.N k41 41 (w1.setCell ⟨gb, j, none⟩ (sv u')) B (okI B (sv u)) (sv u) o) ∧
      ∀ (i i2 : Nat) (ui uj : SL), i ≠ i2 → (vs.set j u')[i]? = some ui → (vs.set j u')[i2]? = some uj → ∀ b, (sv ui).ownBlock = some b → (sv uj).ownBlock ≠ some b from
    ⟨⟨vs.set j u', by simp [h1], hR, h.1, h.2, fun i u hu b hb => by
      have hi := (List.getElem?_eq_some_iff.1 hu).1
      exact Kd.N_lt (h.1 i u ((outs.set j o')[i]'(by simp at hi ⊢; omega)) hu (List.getElem?_eq_getElem _)) b hb⟩, hg2⟩
  refine ⟨fun i u1 o1 hu1 ho1 => ?_, fun i i2 ui uj hij hui huj b hb => ?_⟩
  · have hgt : ∀ (z : SL) (oz : List S41), Kd.N k41 41 w1 B (okI B (sv z)) (sv z) oz → Kd.N k41 41 (w1.setCell ⟨gb, j, none⟩ (sv u')) B (okI B (sv z)) (sv z) oz := fun z oz hz => by
      refine inner_kept hz hg2 (fun k hk => by injection hk with hk; omega) (fun k hk he => ?_)
      obtain ⟨c, hc⟩ := Kd.N_typed hz k he
      obtain ⟨c', hc'⟩ := Kd.R_typed h2' gb (by simp [Value.ownBlock])
      injection hk with hk
      subst hk
      rw [hc] at hc'; simp at hc'
    by_cases hji : i = j
    · subst hji
      have hl := (List.getElem?_eq_some_iff.1 hu).1
      rw [List.getElem?_set_self hl] at hu1
      rw [List.getElem?_set_self (by omega)] at ho1
      injection hu1 with hu1; injection ho1 with ho1
      subst hu1; subst ho1
      exact hgt _ _ h
    · rw [List.getElem?_set_ne (fun e => hji e.symm)] at hu1 ho1
      exact hgt _ _ (inner_kept (h3 i u1 o1 hu1 ho1) hg hBu (fun k hk => fun he => h4 i j u1 u hji hu1 hu k he hk))
  · have hnew : ∀ (i : Nat) (ui : SL), i ≠ j → vs[i]? = some ui → ∀ b, (sv ui).ownBlock = some b → (sv u').ownBlock ≠ some b := fun i ui hi hui b hb he => by
      rcases hat with hat | ⟨b', hb', hle⟩
      · rw [hat] at he
        exact h4 i j ui u hi hui hu b hb he
      · rw [hb'] at he
        injection he with he
        subst he
        have hil : i < outs.length := by rw [← h1]; exact (List.getElem?_eq_some_iff.1 hui).1
        have := Kd.N_lt (h3 i ui outs[i] hui (List.getElem?_eq_getElem hil)) _ hb
        omega
    by_cases hi : i = j
    · subst hi
      have hl := (List.getElem?_eq_some_iff.1 hu).1
      rw [List.getElem?_set_self hl] at hui
      injection hui with hui
      subst hui
      rw [List.getElem?_set_ne hij] at huj
      exact fun he => hnew i2 uj (fun e => hij e.symm) huj b he hb
    · rw [List.getElem?_set_ne (fun e => hi e.symm)] at hui
      by_cases hi2 : i2 = j
      · subst hi2
        have hl := (List.getElem?_eq_some_iff.1 hu).1
        rw [List.getElem?_set_self hl] at huj
        injection huj with huj
        subst huj
        exact hnew i ui hi hui b hb
      · rw [List.getElem?_set_ne (fun e => hi2 e.symm)] at huj
        exact h4 i i2 ui uj hij hui huj b hb
end Go.Proofs.YtoncpeadbhgmaaaGreatDoor.G

set_option linter.unusedVariables false
set_option linter.unusedSimpArgs false
namespace Go.Proofs.YtoncpeadbhgmaaaGreatDoor.G
open Go.RowKit Go.Sort Go.Shelf Go.Proofs.YtoncpeadbhgmaaaGreatDoorW.PrintWords

theorem kept_world1 {α : Type} [Inhabited α] (enc : α → Value) (W : World) (blk n : Nat) (d' : Array α) (os : Array Obj) (c : Array Value) (e : Nat) (hb : W.heap[blk]? = some (.cells c e (0, 0))) (v : Value) (hv : v.ownBlock = some blk) :
    SortKept W (sortWorld enc W blk 0 n d' os) v := by
  have hlt : blk < W.heap.size := (Array.getElem?_eq_some_iff.1 hb).1
  refine ⟨rfl, rfl, rfl, ?_, fun j hj hne => ?_⟩
  · simp [sortWorld, size_grow]
  · simp only [sortWorld]
    rw [heap_grow_old _ _ (by simpa using hj)]
    simp only [putRow, mapBlock]
    rw [Array.getElem?_modify]
    rw [hv] at hne
    rw [if_neg (fun h => hne (by rw [h]))]
    rfl
theorem kept_row1 {α : Type} [Inhabited α] (enc : α → Value) (W : World) (blk n : Nat) (d' : Array α) (os : Array Obj) (c : Array Value) (e : Nat) (hb : W.heap[blk]? = some (.cells c e (0, 0))) (hc : d'.size ≤ c.size) :
    ∃ c', (sortWorld enc W blk 0 n d' os).heap[blk]? = some (.cells c' e (0, 0)) ∧ c'.size = c.size ∧ c'.toList.take d'.size = d'.toList.map enc := by
  have hlt : blk < W.heap.size := (Array.getElem?_eq_some_iff.1 hb).1
  refine ⟨putCells enc 0 d' c, ?_, by simp [putCells], ?_⟩
  · simp only [sortWorld]
    rw [heap_grow_old _ _ (by simpa using hlt)]
    simp only [putRow, mapBlock]
    rw [Array.getElem?_modify, if_pos rfl]
    show (W.heap[blk]?).map _ = _
    rw [hb]; rfl
  · apply List.ext_getElem
    · simp [putCells]; omega
    · intro i h1 h2
      have hi : i < d'.size := by simpa using h2
      simp only [List.getElem_take, Array.getElem_toList, putCells, Array.getElem_mapIdx, Nat.zero_le, true_and, Nat.zero_add, Nat.sub_zero, List.getElem_map]
      rw [if_pos hi, getElem!_pos d' _ hi]

set_option maxHeartbeats 1000000 in
theorem sort_fin (n : Nat) (hn : n < 4611686018427387904) (c : Fin n → Fin n → Int) (hO : SWO (ltOf c)) (g : Nat) (cb : Array Value) (eg : ∀ args w, (callFunc g args).run Tryz.prog w = .ok (.enter g args) w)
    (base : Nat) (ok : Nat → Prop) (v : Value) (W : World) (ho : (Kd.int .i64).R 3 W base ok v ((List.finRange n).map fun i => (i.1 : Int)))
    (hcmp : ∀ (W' : World) (x y : Fin n), SortKept W W' v → Calls Tryz.prog g (#[.int .i64 x.1, .int .i64 y.1] ++ cb) W' fun e w' => e = .returned (.int .i64 (c x y)) ∧ Grew W' w') :
    Calls Tryz.prog 87 #[v, .func (.func g) #[] cb] W fun e' w' => e' = .returned (.tuple #[]) ∧ ∃ ys : List (Fin n), ys.Perm (List.finRange n) ∧ (ys.Pairwise fun a b => ¬ c b a < 0) ∧ (Kd.int .i64).R 3 w' base ok v (ys.map fun i => (i.1 : Int)) ∧ SortKept W w' v := by
  obtain ⟨h0, inner, ho1, hr⟩ := ho
  have hlen : ((List.finRange n).map fun i => (i.1 : Int)).length = n := by simp
  have hnone : ∀ p cap, v = .slice p 0 cap → n = 0 → Calls Tryz.prog 87 #[v, .func (.func g) #[] cb] W fun e' w' => e' = .returned (.tuple #[]) ∧ ∃ ys : List (Fin n), ys.Perm (List.finRange n) ∧ (ys.Pairwise fun a b => ¬ c b a < 0) ∧ (Kd.int .i64).R 3 w' base ok v (ys.map fun i => (i.1 : Int)) ∧ SortKept W w' v := fun p cap hv h0' => by
    subst hv
    refine (AnyF.slices_SortFunc_none (P := Tryz.prog) (ρ := Tryz.sortInt_ren) { Tryz.sortInt with } p cap _ W).mono ?_
    rintro e' w' ⟨rfl, rfl⟩
    subst h0'
    exact ⟨rfl, [], by simp, List.Pairwise.nil, ⟨h0, inner, ho1, hr⟩, rfl, rfl, rfl, Nat.le_refl _, fun _ _ _ => rfl⟩
  rcases ho1.2 with ⟨hv, hn0⟩ | ⟨blk, cap, cur, hv, hbase, hb, hnc, hcm, hcs, ht⟩
  · exact hnone none 0 hv (by simpa using hn0)
  · rw [hlen] at hv hnc ht
    by_cases hz : n = 0
    · exact hnone _ _ (by rw [hv, hz]) hz
    · subst hv
      haveI : Inhabited (Fin n) := ⟨⟨0, by omega⟩⟩
      let enc : Fin n → Value := fun i => .int .i64 i.1
      let D : Array (Fin n) := (List.finRange n).toArray
      have hDs : D.size = n := by simp [D]
      have hDg : ∀ (i : Nat) (hi : i < D.size), (D[i]'hi).1 = i := fun i hi => by simp [D]
      have hblk : blk < W.heap.size := (Array.getElem?_eq_some_iff.1 hb).1
      have hin : ∀ (i : Nat), i < n → inner[i]? = some (.int .i64 (i : Int)) := fun i hi => by
        have h := hr.2 i (i : Int) (by rw [List.getElem?_map]; simp [hi])
        have h' : (inner.drop (i * 1)).take 1 = [.int .i64 (i : Int)] := h
        have h2 : ((inner.drop (i * 1)).take 1)[0]? = some (.int .i64 (i : Int)) := by rw [h']; rfl
        simpa using h2
      have hH : Holds enc W blk 0 D := by
        intro t ht'
        have htn : t < n := by omega
        have hcur : cur[t]? = some (.int .i64 (t : Int)) := by
          have h3 : (cur.toList.take (n * 1))[t]? = inner[t]? := by
            have : cur.toList.take (n * 1) = inner := ht
            rw [this]
          rw [hin t htn, List.getElem?_take] at h3
          split at h3
          · simpa using h3
          · cases h3
        refine ⟨?_, ?_⟩
        · simp only [World.cell?, hb, Nat.zero_add]
          rw [getElem!_pos D _ ht']
          simp [hcur, enc, hDg]
        · simp [World.frozen?, hb]
      have hcmp' : CmpLays1 Tryz.prog g cb enc c blk 0 D.size W := by
        intro m os dk hdk x y
        have hkw := kept_world1 enc W blk m dk os cur 3 hb (.slice (some ⟨blk, 0, none⟩) n cap) rfl
        exact (hcmp _ x y hkw).mono fun e' w' ⟨he, q, os', hw⟩ => ⟨he, q, os', hw⟩
      have hcon := Any.slices_SortFunc Tryz.sortInt enc (fun _ => rfl) c hO g cb blk 0 cap D W eg hcmp' hH hblk (by rw [hDs]; exact hn)
      rw [hDs] at hcon
      refine hcon.mono ?_
      rintro e' w' ⟨rfl, d', m, os, hperm, hsort, rfl⟩
      have hd's : d'.size = n := hperm.1.trans hDs
      have hkw := kept_world1 enc W blk m d' os cur 3 hb (.slice (some ⟨blk, 0, none⟩) n cap) rfl
      refine ⟨rfl, d'.toList, ?_, ?_, ?_, hkw⟩
      · have h2 := hperm.2.2
        have h3 : d'.extract 0 n = d' := by
          apply Array.ext
          · simp [hd's]
          · intro i i1 i2; simp
        have h4 : D.extract 0 n = D := by
          apply Array.ext
          · simp [hDs]
          · intro i i1 i2; simp
        rw [h3, h4] at h2
        simpa [D] using h2
      · rw [List.pairwise_iff_getElem]
        intro i j hi hj hij
        have hi' : i < d'.size := by simpa using hi
        have hj' : j < d'.size := by simpa using hj
        have h := hsort i j (Nat.zero_le _) hij (by omega)
        rw [getElem!_pos d' _ hj', getElem!_pos d' _ hi'] at h
        simpa [ltOf] using h
      · obtain ⟨c', hc1, hc2, hc3⟩ := kept_row1 enc W blk m d' os cur 3 hb (by rw [hd's, hcs]; exact Nat.le_trans hnc (by simp [Kd.int, Kd.scalar]))
        have hl2 : (d'.toList.map fun i => (i.1 : Int)).length = n := by simp [hd's]
        refine ⟨fun k hk' => h0 k (by simpa [hlen] using hk'), d'.toList.map enc, ⟨by rw [hl2]; simp [hd's, Kd.int, Kd.scalar], .inr ⟨blk, cap, c', by rw [hl2], hbase, hc1, by rw [hl2]; exact hnc, hcm, by rw [hc2, hcs], by rw [hl2]; have h9 := hc3; rw [show c'.toList.take d'.size = c'.toList.take (n * (Kd.int IntKind.i64).sz) from by rw [hd's]; simp [Kd.int, Kd.scalar]] at h9; exact h9⟩⟩, by simp [hd's, Kd.int, Kd.scalar], fun j p hj => ?_⟩
        obtain ⟨hjl, hp⟩ := List.getElem?_eq_some_iff.1 hj
        subst hp
        show (List.take 1 (List.drop (j * 1) _)) = [_]
        have hj' : j < d'.size := by simpa using hjl
        apply List.ext_getElem
        · simp; omega
        · intro i i1 i2
          have : i = 0 := by simp at i2; omega
          subst this
          simp [enc]
end Go.Proofs.YtoncpeadbhgmaaaGreatDoor.G

set_option linter.unusedVariables false
set_option linter.unusedSimpArgs false
namespace Go.Proofs.YtoncpeadbhgmaaaGreatDoor.G
open Go.RowKit Go.Sort Go.Shelf Go.Proofs.YtoncpeadbhgmaaaGreatDoorW.PrintWords Go.Proofs.YtoncpeadbhgmaaaGreatDoorW.PrintLast Go.Proofs.YtoncpeadbhgmaaaGreatDoorW.PrintMore

/-- An element of a row of label sets: its cell, and what it leads to. -/
theorem key_at {w : World} {B : Nat} {ok : Nat → Prop} {vk : Value} {keys : List (List S89)} (h : (Kd.slice 89 k89).R 39 w B ok vk keys) : ∃ A c, vk = .slice A keys.length c ∧ ∀ i (hi : i < keys.length), ∃ gk Ai ci, A = some ⟨gk, 0, none⟩ ∧ w.cell? ⟨gk, i, none⟩ = some (.slice Ai keys[i].length ci) ∧ keys[i].length ≤ ci ∧ Kd.C k89 w Ai keys[i].length keys[i] := by
  obtain ⟨A, c, rfl⟩ := Kd.R_slice h
  refine ⟨A, c, rfl, fun i hi => ?_⟩
  obtain ⟨_, _, hC⟩ := Kd.R_reads' h
  obtain ⟨ad, cs, rfl, hl, hK, hc⟩ := Kd.C_get hC ([] : List S89) (i : Int) (by omega) (by omega)
  obtain ⟨gk, rfl⟩ := Kd.R_head h
  obtain ⟨Ai, ci, rfl, hle, hr⟩ := hK
  have e : keys.getD (i : Int).toNat [] = keys[i] := by simp [List.getD_eq_getElem?_getD, hi]
  have hc0 := hc 0 _ rfl
  rw [e] at hc0 hle hr
  refine ⟨gk, Ai, ci, rfl, ?_, hle, hr⟩
  rw [← hc0]
  congr 1
  simp [Addr.add, Kd.slice]

set_option maxHeartbeats 4000000 in
set_option maxRecDepth 100000 in
theorem groupsLess_calls (w : World) (B bx : Nat) (ok : Nat → Prop) (vk : Value) (keys : List (List S89)) (hb : w.heap[bx]? = some (.cells #[vk] 108 (0, 0))) (hR : (Kd.slice 89 k89).R 39 w B ok vk keys) (i j : Nat) (hi : i < keys.length) (hj : j < keys.length) :
    Calls Tryz.prog 88 #[.int .i64 i, .int .i64 j, .pointer (some ⟨bx, 0, none⟩)] w fun e w' => e = .returned (.int .i64 (cmpLs keys[i] keys[j])) ∧ Grew w w' := by
  obtain ⟨A, ck, rfl, hat⟩ := key_at hR
  obtain ⟨gk, Ai, ci, rfl, x0, hli, hci⟩ := hat i hi
  obtain ⟨gk', Aj, cj, e', y0, hlj, hcj⟩ := hat j hj
  obtain rfl : gk = gk' := by injection e' with e'; injection e'
  have b0 : w.cell? ⟨bx, 0, none⟩ = some (.slice (some ⟨gk, 0, none⟩) keys.length ck) := (blk_cell hb 0).trans rfl
  have cc := compare_grew Ai ci keys[i] Aj cj keys[j] w.drew (Kd.C_drew hci) (Kd.C_drew hcj)
  generalize cmpLs keys[i] keys[j] = r at cc ⊢
  clear hat hci hcj e' hR hb hli hlj
  have p0 : (0 ≤ (i : Int)) = True := eq_true (by omega)
  have p1 : ((i : Int) < (keys.length : Int)) = True := eq_true (by omega)
  have q0 : (0 ≤ (j : Int)) = True := eq_true (by omega)
  have q1 : ((j : Int) < (keys.length : Int)) = True := eq_true (by omega)
  go_enter Tryz.func88, Tryz.ntmps88
  go_wp2
  refine start_ (n := 10) (S := fun w' => w'.cell? ⟨bx, 0, none⟩ = some (.slice (some ⟨gk, 0, none⟩) keys.length ck) ∧ w'.cell? ⟨gk, i, none⟩ = some (.slice Ai keys[i].length ci) ∧ w'.cell? ⟨gk, j, none⟩ = some (.slice Aj keys[j].length cj)) (ds := []) #[false, false, false, false, false, false, false, false, false, false] (by kernel_rfl) rfl rfl ⟨b0, x0, y0⟩ (fun hHeld => ?_)
  refine pure_ (i := 1) (N := some 7) (v := ?_) (a' := ?_) #[false, true, false, false, false, false, false, false, false, false] rfl rfl (by kernel_rfl) (fun _ _ _ h => h) (Or.inl ⟨by rfl, ?_⟩) ?_ ?_
  rotate_left
  · intro w'
    go_simp
    with_reducible rfl
  rotate_left
  · simp only [Act.put, List.setIfInBounds_toArray, List.set_cons_zero, List.set_cons_succ, i64_w, i32_w]
    rfl
  refine pure_ (i := 5) (N := some 11) (v := ?_) (a' := ?_) #[false, true, false, false, false, true, false, false, false, false] rfl rfl (by kernel_rfl) (fun _ _ _ h => h) (Or.inl ⟨by rfl, ?_⟩) ?_ ?_
  rotate_left
  · intro w'
    go_simp
    with_reducible rfl
  rotate_left
  · simp only [Act.put, List.setIfInBounds_toArray, List.set_cons_zero, List.set_cons_succ, i64_w, i32_w]
    rfl
  refine take_ (i := 0) (N := some 6) (v := ?_) (a' := ?_) #[true, true, false, false, false, true, false, false, false, false] rfl rfl (by kernel_rfl) (fun _ _ _ h => h) (Or.inl ⟨by rfl, ?_⟩) hHeld ?_ ?_
  rotate_left
  · rintro w' ⟨s0, s1, s2⟩
    go_simp
    with_reducible rfl
  rotate_left
  · simp only [Act.put, List.setIfInBounds_toArray, List.set_cons_zero, List.set_cons_succ, i64_w, i32_w]
    rfl
  refine take_ (i := 4) (N := some 10) (v := ?_) (a' := ?_) #[true, true, false, false, true, true, false, false, false, false] rfl rfl (by kernel_rfl) (fun _ _ _ h => h) (Or.inl ⟨by rfl, ?_⟩) hHeld ?_ ?_
  rotate_left
  · rintro w' ⟨s0, s1, s2⟩
    go_simp
    with_reducible rfl
  rotate_left
  · simp only [Act.put, List.setIfInBounds_toArray, List.set_cons_zero, List.set_cons_succ, i64_w, i32_w]
    rfl
  refine pure_ (i := 2) (N := some 8) (v := ?_) (a' := ?_) #[true, true, true, false, true, true, false, false, false, false] rfl rfl (by kernel_rfl) (fun _ _ _ h => h) (Or.inl ⟨by rfl, ?_⟩) ?_ ?_
  rotate_left
  · intro w'
    go_simp
    with_reducible rfl
  rotate_left
  · simp only [Act.put, List.setIfInBounds_toArray, List.set_cons_zero, List.set_cons_succ, i64_w, i32_w]
    rfl
  refine pure_ (i := 6) (N := some 12) (v := ?_) (a' := ?_) #[true, true, true, false, true, true, true, false, false, false] rfl rfl (by kernel_rfl) (fun _ _ _ h => h) (Or.inl ⟨by rfl, ?_⟩) ?_ ?_
  rotate_left
  · intro w'
    go_simp
    with_reducible rfl
  rotate_left
  · simp only [Act.put, List.setIfInBounds_toArray, List.set_cons_zero, List.set_cons_succ, i64_w, i32_w]
    rfl
  refine take_ (i := 3) (N := some 9) (v := ?_) (a' := ?_) #[true, true, true, true, true, true, true, false, false, false] rfl rfl (by kernel_rfl) (fun _ _ _ h => h) (Or.inl ⟨by rfl, ?_⟩) hHeld ?_ ?_
  rotate_left
  · rintro w' ⟨s0, s1, s2⟩
    go_simp
    with_reducible rfl
  rotate_left
  · simp only [Act.put, List.setIfInBounds_toArray, List.set_cons_zero, List.set_cons_succ, i64_w, i32_w]
    rfl
  refine take_ (i := 7) (N := some 13) (v := ?_) (a' := ?_) #[true, true, true, true, true, true, true, true, false, false] rfl rfl (by kernel_rfl) (fun _ _ _ h => h) (Or.inl ⟨by rfl, ?_⟩) hHeld ?_ ?_
  rotate_left
  · rintro w' ⟨s0, s1, s2⟩
    go_simp
    with_reducible rfl
  rotate_left
  · simp only [Act.put, List.setIfInBounds_toArray, List.set_cons_zero, List.set_cons_succ, i64_w, i32_w]
    rfl
  refine one_ (i := 8) (N := some 14) #[true, true, true, true, true, true, true, true, true, false] rfl rfl (by kernel_rfl) (by decide) (fun K hK => ?_)
  refine goes_ Tryz.func61 (by kernel_rfl) rfl #[.slice Ai keys[i].length ci, .slice Aj keys[j].length cj] (by rfl) rfl rfl (by (try simp only [List.map_toArray, List.map_cons, List.map_nil]); first | done | rfl) ?_
  refine cc.mono ?_
  rintro e w1 ⟨rfl, hg⟩
  refine ⟨_, rfl, ?_⟩
  have hS : ∀ {a : Addr} {u : Value}, w.cell? a = some u → w1.cell? a = some u := fun {a u} h => (hg.below.cell (World.block_lt_of_cell? w.drew _ h)).trans h
  refine hK.out _ _ ⟨hS b0, hS x0, hS y0⟩ (fun hHeld => ?_)
  clear hK K
  refine norm_ (a' := ?_) ?_ ?_
  rotate_left
  · show Act.put _ (some 14) _ = _
    simp only [Act.put, List.setIfInBounds_toArray, List.set_cons_zero, List.set_cons_succ, i64_w, i32_w]
    rfl
  refine pure_ (i := 9) (N := some 5) (v := ?_) (a' := ?_) #[true, true, true, true, true, true, true, true, true, true] rfl rfl (by kernel_rfl) (fun _ _ _ h => h) (Or.inl ⟨by rfl, ?_⟩) ?_ ?_
  rotate_left
  · intro w'
    go_simp
    with_reducible rfl
  rotate_left
  · simp only [Act.put, List.setIfInBounds_toArray, List.set_cons_zero, List.set_cons_succ, i64_w, i32_w]
    rfl
  refine done_ (by kernel_rfl) ?_
  go_wp2
  go_ret
  exact ⟨rfl, (Grew.refl w).drew.trans hg⟩
end Go.Proofs.YtoncpeadbhgmaaaGreatDoor.G

set_option linter.unusedVariables false
set_option linter.unusedSimpArgs false
namespace Go.Proofs.YtoncpeadbhgmaaaGreatDoor.G
open Go.RowKit Go.Sort Go.Shelf Go.Proofs.YtoncpeadbhgmaaaGreatDoorW.PrintWords Go.Proofs.YtoncpeadbhgmaaaGreatDoorW.PrintLast Go.Proofs.YtoncpeadbhgmaaaGreatDoorW.PrintMore

structure GSt where
  keys : List (List S89)
  ks : List (List UInt8)
  outs : List (List S41)
def GSt.met (st : GSt) (g : List S89) (key : List UInt8) : GSt := if key ∈ st.ks then st else ⟨st.keys ++ [g], st.ks ++ [key], st.outs ++ [[]]⟩
def GSt.put (st : GSt) (key : List UInt8) (p : S41) : GSt := ⟨st.keys, st.ks, st.outs.set (st.ks.idxOf key) (rd_L5 st.outs (st.ks.idxOf key : Int) ++ [p])⟩
def gput (k : Nat) (names : List ByteArray) (wo : Bool) (st : GSt) (p : S41) : Option GSt :=
  (aggr_group.f k p.f0 names wo).bind fun g => (labels_Put.f k ([] : List Int) g).bind fun kb =>
    if st.outs.length < 1048576 ∧ (rd_L5 (st.met g (strOfNums kb.1).data.toList).outs ((st.met g (strOfNums kb.1).data.toList).ks.idxOf (strOfNums kb.1).data.toList : Int)).length < 1048576 then some ((st.met g (strOfNums kb.1).data.toList).put (strOfNums kb.1).data.toList p) else none
def gfold (k : Nat) (names : List ByteArray) (wo : Bool) : List S41 → GSt → Option GSt
  | [], st => some st
  | p :: l, st => (gput k names wo st p).bind (gfold k names wo l)

structure GBase (B : Nat) (W1 w : World) (mp bx : Nat) (st : GSt) : Prop where
  below : Below B W1 w
  map : IMap w mp st.ks.length st.ks
  mpB : B ≤ mp
  bxB : B ≤ bx
  box : ∃ vk, w.heap[bx]? = some (.cells #[vk] 108 (0, 0)) ∧ (Kd.slice 89 k89).R 39 w B (fun _ => True) vk st.keys
  lk : st.keys.length = st.outs.length
  ls : st.ks.length = st.outs.length
structure GInv (B lim : Nat) (W1 w : World) (mp bx : Nat) (v : Value) (st : GSt) : Prop extends GBase B W1 w mp bx st where
  rows : Rows B lim w v st.outs

theorem gbase_kept {B : Nat} {W1 w w1 : World} {mp bx : Nat} {st : GSt} (h : GBase B W1 w mp bx st) {g : Option Nat} (hg : w.grownBy w1 g) (hs : W1.heap.size = B) (hB : ∀ k, g = some k → B ≤ k) (h1 : some mp ≠ g) (h2 : some bx ≠ g)
    (hne : ∀ k q c, g = some k → q = 39 ∨ q = 89 → w.heap[k]? ≠ some (.cells c q (0, 0))) : GBase B W1 w1 mp bx st where
  below := h.below.trans (grown_below hg hB (hs ▸ h.below.size))
  map := imap_kept h.map hg h1
  mpB := h.mpB
  bxB := h.bxB
  box := by
    obtain ⟨vk, hb, hr⟩ := h.box
    exact ⟨vk, (hg.block bx (Array.getElem?_eq_some_iff.1 hb).1 h2).trans hb, R_kept hr hg (fun k q c hk hq => hne k q c hk (by
      simpa [Kd.slice, k89, Kd.iso, Kd.pair, Kd.string, Kd.scalar] using hq))⟩
  lk := h.lk
  ls := h.ls
/-- .. over a write into a block of cells of another type. -/
theorem gbase_typed {B : Nat} {W1 w w1 : World} {mp bx : Nat} {st : GSt} (h : GBase B W1 w mp bx st) {g : Option Nat} (hg : w.grownBy w1 g) (hs : W1.heap.size = B) {q : Nat} (hq : q ≠ 39 ∧ q ≠ 89 ∧ q ≠ 108) (hB : ∀ k, g = some k → B ≤ k) (ht : ∀ k, g = some k → ∃ c, w.heap[k]? = some (.cells c q (0, 0))) : GBase B W1 w1 mp bx st := by
  refine gbase_kept h hg hs hB (fun e => ?_) (fun e => ?_) (fun k q' c e hq' => ?_)
  · obtain ⟨es, cl, hm⟩ := imap_block h.map
    obtain ⟨c, hc⟩ := ht _ e.symm
    rw [hm] at hc; cases hc
  · obtain ⟨vk, hb, _⟩ := h.box
    obtain ⟨c, hc⟩ := ht _ e.symm
    rw [hb] at hc
    simp at hc
    exact hq.2.2 hc.2.symm
  · obtain ⟨c', hc'⟩ := ht _ e
    rw [hc']
    simp
    intro _ e2
    subst e2
    rcases hq' with h | h
    · exact hq.1 h
    · exact hq.2.1 h
theorem ginv_kept {B lim : Nat} {W1 w w1 : World} {mp bx : Nat} {v : Value} {st : GSt} (h : GInv B lim W1 w mp bx v st) {g : Option Nat} (hg : w.grownBy w1 g) (hs : W1.heap.size = B) (hB : ∀ k, g = some k → B ≤ k) (h1 : some mp ≠ g) (h2 : some bx ≠ g)
    (hne : ∀ k q c, g = some k → q = 22 ∨ q = 41 ∨ q = 39 ∨ q = 89 → w.heap[k]? ≠ some (.cells c q (0, 0))) : GInv B lim W1 w1 mp bx v st where
  toGBase := gbase_kept h.toGBase hg hs hB h1 h2 (fun k q c hk hq => hne k q c hk (by rcases hq with h | h <;> simp [h]))
  rows := rows_kept h.rows hg hB (fun k q c hk hq => hne k q c hk (by rcases hq with h | h <;> simp [h]))
theorem ginv_below {B lim : Nat} {W1 w w1 : World} {mp bx : Nat} {v : Value} {st : GSt} (h : GInv B lim W1 w mp bx v st) (hs : W1.heap.size = B) (hb : Below w.heap.size w w1) : GInv B lim W1 w1 mp bx v st :=
  ginv_kept h (grown_none hb) hs (fun k e => by cases e) (by simp) (by simp) (fun k q c e => by cases e)
theorem ginv_lim {B lim : Nat} {W1 w : World} {mp bx : Nat} {v : Value} {st : GSt} (h : GInv B lim W1 w mp bx v st) : GInv B w.heap.size W1 w mp bx v st := { toGBase := h.toGBase, rows := rows_lim h.rows }
theorem inner_open {B : Nat} {w : World} {u : SL} {o : List S41} (h : Kd.N k41 41 w B (okI B (sv u)) (sv u) o) :
    ∃ rows : List (List Value), rows.length = o.length ∧ (Kd.raw 2).R 41 w B (fun _ => True) (sv u) rows ∧ ∀ (j : Nat) (x : S41) (c : List Value), o[j]? = some x → rows[j]? = some c → Kd.FK k41 w (fun k => k < B) x c := by
  obtain ⟨_, rows, hl, hR, hf⟩ := h
  exact ⟨rows, hl, Kd.raw_any hR, fun j x c hx hc => Kd.FK_mono (hf j x c hx hc) (fun k hk => hk.1.elim id (fun he => absurd he hk.2))⟩
theorem inner_more {B : Nat} {w w1 : World} {u : SL} {o : List S41} {rows : List (List Value)} {v1 : Value} {p : S41} {cs : List Value} (hl : rows.length = o.length) (hR0 : (Kd.raw 2).R 41 w B (fun _ => True) (sv u) rows)
    (hf : ∀ (j : Nat) (x : S41) (c : List Value), o[j]? = some x → rows[j]? = some c → Kd.FK k41 w (fun k => k < B) x c) (hp : Kd.FK k41 w (fun k => k < B) p cs)
    (hg : w.grownBy w1 (sv u).ownBlock) (hR : (Kd.raw 2).R 41 w1 B (fun _ => True) v1 (rows ++ [cs])) : ∃ u' : SL, v1 = sv u' ∧ Kd.N k41 41 w1 B (okI B (sv u')) (sv u') (o ++ [p]) := by
  obtain ⟨A, cc, rfl⟩ := Kd.R_slice hR
  have hB := Kd.R_base hR0
  have hB1 := Kd.R_base hR
  refine ⟨(A, (rows ++ [cs]).length, cc), rfl, fun k hk => .inr hk.symm, rows ++ [cs], by simp [hl], Kd.raw_tight hR, fun j x c' hx hc => ?_⟩
  have hst : ∀ {x : S41} {c : List Value}, Kd.FK k41 w (fun k => k < B) x c → Kd.FK k41 w1 (fun k => okI B (sv (A, (rows ++ [cs]).length, cc)) k ∧ some k ≠ (sv (A, (rows ++ [cs]).length, cc)).ownBlock) x c := fun h =>
    Kd.FK_mono (Kd.FK_grown h hg (fun k hk he => by have := hB k he.symm; omega)) (fun k hk => ⟨.inl hk, fun he => by have := hB1 k he.symm; omega⟩)
  by_cases hj : j < o.length
  · rw [List.getElem?_append_left hj] at hx
    rw [List.getElem?_append_left (by omega)] at hc
    exact hst (hf j x c' hx hc)
  · rw [List.getElem?_append_right (by omega)] at hx hc
    have : j - o.length = 0 := by
      have := (List.getElem?_eq_some_iff.1 hx).1; simp at this; omega
    rw [this] at hx; rw [hl, this] at hc
    simp at hx hc
    subst hx; subst hc
    exact hst hp

theorem grown_set (w : World) (g i : Nat) (u : Value) : w.grownBy (w.setCell ⟨g, i, none⟩ u) (some g) :=
  ⟨rfl, rfl, rfl, by simp [World.setCell], fun k _ hne => Below.heap_setCell _ _ _ _ (fun e => hne (by rw [e]))⟩
theorem imap_t {w w1 : World} {mp n : Nat} {ks : List (List UInt8)} (h : IMap w mp n ks) {g : Option Nat} (hg : w.grownBy w1 g) (q : Nat) (ht : ∀ k, g = some k → ∃ c, w.heap[k]? = some (.cells c q (0, 0))) : IMap w1 mp n ks :=
  imap_kept h hg (fun e => by
    obtain ⟨es, cl, hm⟩ := imap_block h
    obtain ⟨c, hc⟩ := ht _ e.symm
    rw [hm] at hc; cases hc)
theorem box_t {w w1 : World} {bx t : Nat} {cs : Array Value} (h : w.heap[bx]? = some (.cells cs t (0, 0))) {g : Option Nat} (hg : w.grownBy w1 g) (q : Nat) (hq : q ≠ t) (ht : ∀ k, g = some k → ∃ c, w.heap[k]? = some (.cells c q (0, 0))) : w1.heap[bx]? = some (.cells cs t (0, 0)) :=
  (hg.block bx (Array.getElem?_eq_some_iff.1 h).1 (fun e => by
    obtain ⟨c, hc⟩ := ht _ e.symm
    rw [h] at hc
    simp at hc
    exact hq hc.2.symm)).trans h
theorem R_t {α : Type} {d : Kd α} {e : Nat} {w w1 : World} {base : Nat} {ok : Nat → Prop} {v : Value} {xs : List α} (h : d.R e w base ok v xs) {g : Option Nat} (hg : w.grownBy w1 g) (q : Nat) (hq : q ∉ e :: d.E) (ht : ∀ k, g = some k → ∃ c, w.heap[k]? = some (.cells c q (0, 0))) : d.R e w1 base ok v xs :=
  R_kept h hg (fun k q' c hk hq' => by
    obtain ⟨c', hc'⟩ := ht _ hk
    rw [hc']
    simp
    intro _ e2
    subst e2
    exact hq hq')
theorem rows_t {B lim : Nat} {w w1 : World} {v : Value} {outs : List (List S41)} (h : Rows B lim w v outs) {g : Option Nat} (hg : w.grownBy w1 g) (hB : ∀ k, g = some k → B ≤ k) (q : Nat) (hq : q ≠ 22 ∧ q ≠ 41) (ht : ∀ k, g = some k → ∃ c, w.heap[k]? = some (.cells c q (0, 0))) : Rows B lim w1 v outs :=
  rows_kept h hg hB (fun k q' c hk hq' => by
    obtain ⟨c', hc'⟩ := ht _ hk
    rw [hc']
    simp
    intro _ e2
    subst e2
    rcases hq' with h | h
    · exact hq.1 h
    · exact hq.2 h)

theorem gfold_step {k : Nat} {l1 : List ByteArray} {a2 : Bool} {all : List S41} {j : Nat} {st fin : GSt} (hj : j < all.length) (h : gfold k l1 a2 (all.drop j) st = some fin) :
    ∃ g kb1 kb2, aggr_group.f k (rd_T41 all j).f0 l1 a2 = some g ∧ labels_Put.f k ([] : List Int) g = some (kb1, kb2) ∧ st.outs.length < 1048576 ∧ (rd_L5 (st.met g (strOfNums kb1).data.toList).outs ((st.met g (strOfNums kb1).data.toList).ks.idxOf (strOfNums kb1).data.toList : Int)).length < 1048576 ∧
      gfold k l1 a2 (all.drop (j + 1)) ((st.met g (strOfNums kb1).data.toList).put (strOfNums kb1).data.toList (rd_T41 all j)) = some fin := by
  have e : rd_T41 all j = all[j] := by simp [rd_T41, List.getD_eq_getElem?_getD, hj]
  rw [List.drop_eq_getElem_cons hj] at h
  simp only [gfold, gput] at h
  rw [e]
  obtain ⟨st2, h1, h2⟩ := Option.bind_eq_some_iff.mp h
  obtain ⟨g, hg, h3⟩ := Option.bind_eq_some_iff.mp h1
  obtain ⟨⟨kb1, kb2⟩, hk, h4⟩ := Option.bind_eq_some_iff.mp h3
  split at h4
  · rename_i hc
    obtain rfl := Option.some.inj h4
    exact ⟨g, kb1, kb2, hg, hk, hc.1, hc.2, h2⟩
  · cases h4

def ordl (n m : Nat) : List Int := (List.range n).map fun i => if i < m then (i : Int) else 0
theorem ordl_zero (n : Nat) : List.replicate n (0 : Int) = ordl n 0 := by
  apply List.ext_getElem <;> simp [ordl]
theorem ordl_step (n m : Nat) (h : m < n) : (ordl n m).set m (m : Int) = ordl n (m + 1) := by
  apply List.ext_getElem
  · simp [ordl]
  · intro i h1 h2
    rw [List.getElem_set]
    simp only [ordl, List.getElem_map, List.getElem_range]
    by_cases h3 : m = i
    · subst h3; simp
    · rw [if_neg h3]
      by_cases h4 : i < m
      · rw [if_pos h4, if_pos (by omega)]
      · rw [if_neg h4, if_neg (by omega)]
theorem ordl_all (n : Nat) : ordl n n = (List.finRange n).map fun i => (i.1 : Int) := by
  apply List.ext_getElem
  · simp [ordl]
  · intro i h1 h2
    have : i < n := by simpa [ordl] using h1
    simp [ordl, this]
theorem kept_grown {W W' : World} {v : Value} (h : SortKept W W' v) : W.grownBy W' v.ownBlock := ⟨h.1, h.2.1, h.2.2.1, h.2.2.2.1, fun k hk hne => h.2.2.2.2 k hk hne⟩

/-- The groups, rising by their keys. -/
def GroupsDone (w w' : World) (fin : GSt) (v : Value) : Prop := ∃ (B : Nat) (ys : List (Fin fin.outs.length)), ys.Perm (List.finRange fin.outs.length) ∧
      (ys.Pairwise fun a b => ¬ cmpLs (fin.keys.getD b.1 []) (fin.keys.getD a.1 []) < 0) ∧ w.heap.size ≤ B ∧ Rows B w'.heap.size w' v (ys.map fun i => fin.outs[i]) ∧ Below w.heap.size w w'
set_option maxHeartbeats 4000000 in
set_option maxRecDepth 1000000 in
theorem groups_walk (k : Nat) (A0 : Option Addr) (c0 : Nat) (l0 : List S41) (A1 : Option Addr) (c1 : Nat) (l1 : List ByteArray) (a2 : Bool) (all : List S41) (fin : GSt) (w : World)
    (hr0 : Kd.C k41 w A0 l0.length l0) (hc0 : l0.length ≤ c0) (hr1 : Kd.C Kd.string w A1 l1.length l1) (hc1 : l1.length ≤ c1) (hT : Tabs w)
    (hv : vec_Vector.f k l0 = some (all, 0)) (hw : aggr_wrong.f k l1 = some 0) (hf : gfold k l1 a2 all ⟨[], [], []⟩ = some fin) (hfl : fin.outs.length < 1048576) :
    Calls Tryz.prog 32 #[.slice A0 l0.length c0, .slice A1 l1.length c1, .bool a2] w fun e w' => ∃ v : Value, e = .returned (.tuple #[v, .int .i64 0]) ∧ GroupsDone w w' fin v := by
  have cv := vec_Vector.calls k A0 c0 l0 all 0 w hr0 hc0 hT hv
  have HT := hid hT
  have HR1 := hid hr1
  have HC1 := hid hc1
  have HF := hid hf
  have HW := hid hw
  clear hr0 hc0 hr1 hc1 hv hw hf hT
  go_enter Tryz.func32, Tryz.ntmps32
  go_wp2_with fail
  refine cv.mono ?_
  rintro e w1 ⟨va, rfl, hoa, hb1⟩
  obtain ⟨Aa, ca, rfl, hla, hra⟩ := Kd.R_reads hoa
  have HT1 := hid (tabs_below HT.out hb1)
  have HRa := hid hra
  have HB1 := hid hb1
  have hla1 := hid hla
  clear hoa hra hb1 hla cv
  go_wp2_with fail
  refine (aggr_wrong.calls k A1 c1 l1 0 w1 (Kd.C_below HR1.out HB1.out) HC1.out HW.out).mono ?_
  rintro e w2 ⟨rfl, hb2⟩
  have HT2 := hid (tabs_below HT1.out hb2)
  have HB2 := hid hb2
  have HRa2 := hid (Kd.C_below HRa.out hb2)
  have HR2 := hid (Kd.C_below (Kd.C_below HR1.out HB1.out) hb2)
  clear hb2
  have hmm := @run_makeMap Tryz.prog
  go_wp2
  have hI0 : GInv w2.heap.size ((w2.alloc (Obj.map #[] 0)).alloc (Obj.cells #[Value.slice none 0 0] 108)).heap.size w2 ((w2.alloc (Obj.map #[] 0)).alloc (Obj.cells #[Value.slice none 0 0] 108)) w2.heap.size (w2.heap.size + 1) (.slice none 0 0) ⟨[], [], []⟩ :=
    { below := below_alloc (below_alloc (Below.refl _ _) _) _
      map := imap_kept (imap_made w2) (World.grownBy_alloc _ _ none) (by simp)
      mpB := Nat.le_refl _
      bxB := by omega
      box := ⟨.slice none 0 0, by have := heap_alloc_new (w2.alloc (Obj.map #[] 0)) (Obj.cells #[Value.slice none 0 0] 108); simpa using this, Kd.R_nil _ _ _ _ _⟩
      lk := rfl
      ls := rfl
      rows := rows_nil _ _ _ }
  have HI0 := hid hI0
  clear hI0
  generalize ((w2.alloc (Obj.map #[] 0)).alloc (Obj.cells #[Value.slice none 0 0] 108)) = w3 at HI0 ⊢
  go_loopw [13, 42] (fun v13 i wr => ∃ (j : Nat) (st : GSt), j ≤ all.length ∧ i = .int .i64 j ∧ Hid (GInv w2.heap.size wr.heap.size w2 wr w2.heap.size (w2.heap.size + 1) v13 st) ∧ Hid (gfold k l1 a2 (all.drop j) st = some fin)) (fun _ i _ => all.length - (intOf i).toNat)
  case atStart => exact ⟨0, _, Nat.zero_le _, rfl, HI0, HF⟩
  case round =>
    obtain ⟨j, st, hj, rfl, HI, HG⟩ := hrel
    clear HI0 HF
    have hmax := Kd.C_max HRa2.out
    by_cases hlt : j < all.length
    · obtain ⟨g, kb1, kb2, hg, hkb, hl1, hl2, hrest⟩ := gfold_step hlt HG.out
      have HG1 := hid hg
      have HK1 := hid hkb
      have HL1 := hid hl1
      have HL2 := hid hl2
      have HR := hid hrest
      clear HG hg hkb hl1 hl2 hrest
      obtain ⟨ad, Ap, cp, e, x0, x1, hlp, hcp⟩ := at_T41 HRa2.out j (by omega) (by omega)
      cases e
      replace x0 := (HI.out.below.cell (World.block_lt_of_cell? w2 _ x0)).trans x0
      replace x1 := (HI.out.below.cell (World.block_lt_of_cell? w2 _ x1)).trans x1
      simp only [Int.toNat_natCast] at x0 x1
      have HFp := hid (k41_mkF w2 (fun k => k < w2.heap.size) (rd_T41 all j) hlp (Kd.C_F k89_heap hcp))
      have HSx0 := hid (show w2.heap.size + 1 < wr.heap.size from by
        obtain ⟨vk, hb, _⟩ := HI.out.box
        exact (Array.getElem?_eq_some_iff.1 hb).1)
      have HLp := hid hlp
      have HCp := hid (Kd.C_below hcp HI.out.below)
      clear hlp hcp
      have hT3 := hid (tabs_below HT2.out HI.out.below)
      have hR3 := hid (Kd.C_below HR2.out HI.out.below)
      have hI4 := ginv_below HI.out rfl (below_alloc (Below.refl _ _) (Obj.cells #[Value.slice Ap (rd_T41 all j).f0.length cp, Value.float FloatKind.f64 (rd_T41 all j).f1] 41))
      have hp4 := heap_alloc_new wr (Obj.cells #[Value.slice Ap (rd_T41 all j).f0.length cp, Value.float FloatKind.f64 (rd_T41 all j).f1] 41)
      have hT4 := tabs_below hT3.out (below_alloc (Below.refl _ _) (Obj.cells #[Value.slice Ap (rd_T41 all j).f0.length cp, Value.float FloatKind.f64 (rd_T41 all j).f1] 41))
      have hR4 := Kd.C_alloc hR3.out (Obj.cells #[Value.slice Ap (rd_T41 all j).f0.length cp, Value.float FloatKind.f64 (rd_T41 all j).f1] 41)
      have hc4 := Kd.C_alloc HCp.out (Obj.cells #[Value.slice Ap (rd_T41 all j).f0.length cp, Value.float FloatKind.f64 (rd_T41 all j).f1] 41)
      have hs4 : wr.heap.size ≤ (wr.alloc (Obj.cells #[Value.slice Ap (rd_T41 all j).f0.length cp, Value.float FloatKind.f64 (rd_T41 all j).f1] 41)).heap.size := by simp
      have HI4 := hid hI4
      have HP4 := hid hp4
      have HT4 := hid hT4
      have HR4 := hid hR4
      have HC4 := hid hc4
      have HS4 := hid hs4
      clear hI4 hp4 hT4 hR4 hc4 hs4 hT3 hR3
      go_wp2_with fail
      generalize (wr.alloc (Obj.cells #[Value.slice Ap (rd_T41 all j).f0.length cp, Value.float FloatKind.f64 (rd_T41 all j).f1] 41)) = w4 at HI4 HP4 HT4 HR4 HC4 HS4 ⊢
      refine (aggr_group.calls k Ap cp _ A1 c1 l1 a2 g w4 HC4.out HLp.out HR4.out HC1.out HT4.out HG1.out).mono ?_
      rintro e w5 ⟨vg, rfl, hog, hb5⟩
      obtain ⟨Ag, cg, rfl, hlg, hrg⟩ := Kd.R_reads hog
      have HI5 := hid (ginv_below HI4.out rfl hb5)
      have HP5 := hid ((hb5.block _ (Array.getElem?_eq_some_iff.1 HP4.out).1).trans HP4.out)
      have HT5 := hid (tabs_below HT4.out hb5)
      have HOg := hid (Kd.R_lower hog (Nat.le_refl _))
      have HLg := hid hlg
      have HCg := hid hrg
      have HS5 := hid (Nat.le_trans HS4.out hb5.size)
      have hb5s := hid hb5.size
      clear hog hb5 hlg hrg HG1
      go_wp2_with fail
      refine (labels_Put.calls k none 0 [] Ag cg g kb1 kb2 w5 (Kd.C_nil _ _) (Nat.le_refl _) HCg.out HLg.out HT5.out HK1.out).mono ?_
      rintro e w6 ⟨vb, rfl, hob, hb6⟩
      obtain ⟨Ab, cb, rfl, hlb, hrb⟩ := Kd.R_reads hob
      have HI6 := hid (ginv_below HI5.out rfl hb6)
      have HP6 := hid ((hb6.block _ (Array.getElem?_eq_some_iff.1 HP5.out).1).trans HP5.out)
      have HOg6 := hid (Kd.R_below HOg.out hb6)
      have HM := hid (Kd.C_max hrb)
      have hcv := fun (W : World) (h : (Kd.int .u8).C W Ab kb1.length kb1) => Kd.C_string (P := Tryz.prog) (src := 109) (e := 5) (dst := 9) (c := cb) Tryz.underlying109 Tryz.underlying5 Tryz.underlying9 h
      have hcv6 := hcv w6 hrb
      have HCb := hid hrb
      have HS6 := hid (Nat.le_trans HS5.out hb6.size)
      clear hob hb6 hlb hrb HK1
      have hlook := imap_look HI6.out.map (strOfNums kb1) (by have := HM.out; simp [strOfNums, ByteArray.size, maxLen]; omega)
      cases hmem : decide ((strOfNums kb1).data.toList ∈ st.ks) with
      | true =>
        have hm : (strOfNums kb1).data.toList ∈ st.ks := of_decide_eq_true hmem
        rw [hmem, if_pos hm] at hlook
        obtain ⟨st1, hst1⟩ : ∃ s, s = st.met g (strOfNums kb1).data.toList := ⟨_, rfl⟩
        have hst2 : st1 = st := by rw [hst1]; simp [GSt.met, hm]
        rw [← hst1] at HL2 HR
        have HIx := hid (hst2 ▸ HI6.out)
        have hks : (st.ks.idxOf (strOfNums kb1).data.toList : Int) = (st1.ks.idxOf (strOfNums kb1).data.toList : Int) := by rw [hst2]
        have hmx : (strOfNums kb1).data.toList ∈ st1.ks := by rw [hst2]; exact hm
        rw [hks] at hlook
        obtain ⟨jj, hjj⟩ : ∃ jj, jj = st1.ks.idxOf (strOfNums kb1).data.toList := ⟨_, rfl⟩
        rw [← hjj] at hlook
        have hjl : jj < st1.outs.length := by rw [← HIx.out.ls, hjj]; exact List.idxOf_lt_length_of_mem hmx
        have HJ := hid hjj
        clear hm hst2 hks hmx hmem HI6 hst1 hjj
        have HPx := HP6
        have HSx := HS6
        clear HP6 HS6
        go_wp2_with fail
        have hId := ginv_below HIx.out rfl (below_drew (Below.refl _ _))
        have hPd : w6.drew.heap[wr.heap.size]? = some (Obj.cells #[Value.slice Ap (rd_T41 all j).f0.length cp, Value.float FloatKind.f64 (rd_T41 all j).f1] 41) := HPx.out
        obtain ⟨vs, h1, h2, h3, h4, h5⟩ := hId.rows.ex
        have hjv : jj < vs.length := by omega
        obtain ⟨u, hu⟩ : ∃ u, vs[jj]? = some u := ⟨vs[jj], List.getElem?_eq_getElem _⟩
        obtain ⟨o, ho⟩ : ∃ o, st1.outs[jj]? = some o := ⟨st1.outs[jj], List.getElem?_eq_getElem _⟩
        obtain ⟨gb, cap, rfl⟩ : ∃ gb cap, u13 = .slice (some ⟨gb, 0, none⟩) vs.length cap := by
          obtain ⟨A, c, rfl⟩ := Kd.R_slice h2
          obtain ⟨_, _, hC⟩ := Kd.R_reads' h2
          obtain ⟨ad, c', rfl, _⟩ := Kd.C_get hC ((none, 0, 0) : SL) (jj : Int) (by omega) (by omega)
          obtain ⟨gb, rfl⟩ := Kd.R_head h2
          exact ⟨gb, c, rfl⟩
        obtain ⟨cz, hcl, hcM, hcc, hfr⟩ := Kd.R_elem h2 ((none, 0, 0) : SL) (jj : Int) (by omega) (by omega)
        have hcz : cz = [sv u] := by
          have h : cz = [sv (vs.getD (jj : Int).toNat (none, 0, 0))] := hcM
          rw [h]; simp [List.getD_eq_getElem?_getD, hu]
        subst hcz
        have c0 : w6.drew.cell? ⟨gb, jj, none⟩ = some (.slice u.1 u.2.1 u.2.2) := by have := hcc 0 _ rfl; simpa [slK, Kd.scalar, sv] using this
        have f0 : w6.drew.frozen? ⟨gb, jj, none⟩ = false := by have := hfr 0; simpa [slK, Kd.scalar] using this
        have c1' : w6.drew.cell? ⟨wr.heap.size, 0, none⟩ = some (Value.slice Ap (rd_T41 all j).f0.length cp) := (blk_cell hPd 0).trans rfl
        have c2' : w6.drew.cell? ⟨wr.heap.size, 1, none⟩ = some (Value.float FloatKind.f64 (rd_T41 all j).f1) := (blk_cell hPd 1).trans rfl
        refine start_ (n := 11) (S := fun w' => w'.cell? ⟨gb, jj, none⟩ = some (.slice u.1 u.2.1 u.2.2) ∧ w'.cell? ⟨wr.heap.size, 0, none⟩ = some (Value.slice Ap (rd_T41 all j).f0.length cp) ∧ w'.cell? ⟨wr.heap.size, 1, none⟩ = some (Value.float FloatKind.f64 (rd_T41 all j).f1)) (ds := [10]) #[false, false, false, false, false, false, false, false, false, false, false] (by kernel_rfl) rfl rfl ⟨c0, c1', c2'⟩ (fun hHeld => ?_)
        have hsz : (rd_L5 st1.outs (jj : Int)).length < 1048576 := by have := HL2.out; rw [← HJ.out] at this; exact this
        have hod : rd_L5 st1.outs (jj : Int) = o := by simp [rd_L5, List.getD_eq_getElem?_getD, ho]
        have hFp : Kd.FK k41 w6.drew (fun k => k < w2.heap.size) (rd_T41 all j) [Value.slice Ap (rd_T41 all j).f0.length cp, Value.float FloatKind.f64 (rd_T41 all j).f1] := by
          have := HFp.out
          exact Kd.FK_step this (fun k hk _ => hId.below.block k hk)
        generalize w6.drew = w7 at hId hPd h2 h3 hcc hfr c0 f0 c1' c2' hHeld hFp ⊢
        have hs7 : wr.heap.size < w7.heap.size := (Array.getElem?_eq_some_iff.1 hPd).1
        obtain ⟨rows, hrl, hrR, hrf⟩ := inner_open (h3 jj u o hu ho)
        have hrn : rows.length < 1048576 := by rw [hrl, ← hod]; exact hsz
        have HId := hid hId
        have HPd := hid hPd
        have H2 := hid h2
        have H3 := hid h3
        have H4 := hid h4
        have HFp7 := hid hFp
        have HrR := hid hrR
        have Hrf := hid hrf
        have Hf0 := hid f0
        have q0 : (0 ≤ (jj : Int)) = True := eq_true (by omega)
        have q1 : ((jj : Int) < (vs.length : Int)) = True := eq_true (by omega)
        clear hId hPd h2 h3 h4 hFp hrR hrf f0 hcc hfr hcM hcl
        refine pure_ (i := 0) (N := some 78) (v := ?_) (a' := ?_) #[true, false, false, false, false, false, false, false, false, false, false] rfl rfl (by kernel_rfl) (fun _ _ _ h => h) (Or.inl ⟨by rfl, ?_⟩) ?_ ?_
        rotate_left
        · intro w'
          go_simp
          with_reducible rfl
        rotate_left
        · simp only [Act.put, List.setIfInBounds_toArray, List.set_cons_zero, List.set_cons_succ, i64_w, i32_w]
          rfl
        refine pure_ (i := 1) (N := some 79) (v := ?_) (a' := ?_) #[true, true, false, false, false, false, false, false, false, false, false] rfl rfl (by kernel_rfl) (fun _ _ _ h => h) (Or.inl ⟨by rfl, ?_⟩) ?_ ?_
        rotate_left
        · intro w'
          go_simp
          with_reducible rfl
        rotate_left
        · simp only [Act.put, List.setIfInBounds_toArray, List.set_cons_zero, List.set_cons_succ, i64_w, i32_w]
          rfl
        refine pure_ (i := 2) (N := some 80) (v := ?_) (a' := ?_) #[true, true, true, false, false, false, false, false, false, false, false] rfl rfl (by kernel_rfl) (fun _ _ _ h => h) (Or.inl ⟨by rfl, ?_⟩) ?_ ?_
        rotate_left
        · intro w'
          go_simp
          with_reducible rfl
        rotate_left
        · simp only [Act.put, List.setIfInBounds_toArray, List.set_cons_zero, List.set_cons_succ, i64_w, i32_w]
          rfl
        refine pure_ (i := 3) (N := some 81) (v := ?_) (a' := ?_) #[true, true, true, true, false, false, false, false, false, false, false] rfl rfl (by kernel_rfl) (fun _ _ _ h => h) (Or.inl ⟨by rfl, ?_⟩) ?_ ?_
        rotate_left
        · intro w'
          go_simp
          with_reducible rfl
        rotate_left
        · simp only [Act.put, List.setIfInBounds_toArray, List.set_cons_zero, List.set_cons_succ, i64_w, i32_w]
          rfl
        refine pure_ (i := 4) (N := some 82) (v := ?_) (a' := ?_) #[true, true, true, true, true, false, false, false, false, false, false] rfl rfl (by kernel_rfl) (fun _ _ _ h => h) (Or.inl ⟨by rfl, ?_⟩) ?_ ?_
        rotate_left
        · intro w'
          go_simp
          with_reducible rfl
        rotate_left
        · simp only [Act.put, List.setIfInBounds_toArray, List.set_cons_zero, List.set_cons_succ, i64_w, i32_w]
          rfl
        refine take_ (i := 5) (N := some 83) (v := ?_) (a' := ?_) #[true, true, true, true, true, true, false, false, false, false, false] rfl rfl (by kernel_rfl) (fun _ _ _ h => h) (Or.inl ⟨by rfl, ?_⟩) hHeld ?_ ?_
        rotate_left
        · rintro w' ⟨s0, s1, s2⟩
          go_simp
          with_reducible rfl
        rotate_left
        · simp only [Act.put, List.setIfInBounds_toArray, List.set_cons_zero, List.set_cons_succ, i64_w, i32_w]
          rfl
        refine take_ (i := 6) (N := some 84) (v := ?_) (a' := ?_) #[true, true, true, true, true, true, true, false, false, false, false] rfl rfl (by kernel_rfl) (fun _ _ _ h => h) (Or.inl ⟨by rfl, ?_⟩) hHeld ?_ ?_
        rotate_left
        · rintro w' ⟨s0, s1, s2⟩
          go_simp
          with_reducible rfl
        rotate_left
        · simp only [Act.put, List.setIfInBounds_toArray, List.set_cons_zero, List.set_cons_succ, i64_w, i32_w]
          rfl
        refine one_ (i := 7) (N := some 85) #[true, true, true, true, true, true, true, true, false, false, false] rfl rfl (by kernel_rfl) (by decide) (fun K hK => ?_)
        refine value_ (w1 := ?_) (v := ?_) (by rfl) rfl ?_ ?_
        rotate_left 2
        · go_simp
          constructor
          · rfl
          · rfl
        refine hK.out _ _ ⟨(World.cell?_alloc_lt _ _ _ (World.block_lt_of_cell? _ _ c0)).trans c0, (World.cell?_alloc_lt _ _ _ (World.block_lt_of_cell? _ _ c1')).trans c1', (World.cell?_alloc_lt _ _ _ (World.block_lt_of_cell? _ _ c2')).trans c2'⟩ (fun hHeld => ?_)
        clear hK K
        refine norm_ (a' := ?_) ?_ ?_
        rotate_left
        · show Act.put _ (some 85) _ = _
          simp only [Act.put, List.setIfInBounds_toArray, List.set_cons_zero, List.set_cons_succ, i64_w, i32_w]
          rfl
        have hne1 : some gb ≠ (sv u).ownBlock := by
          obtain ⟨cc, hcc⟩ := Kd.R_typed H2.out gb (by simp [Value.ownBlock])
          exact Kd.R_ne HrR.out hcc (by decide)
        have hne2 : some wr.heap.size ≠ (sv u).ownBlock := fun he => by have := h5 jj u hu _ he.symm; omega
        refine one_ (i := 8) (N := some 86) #[true, true, true, true, true, true, true, true, true, false, false] rfl rfl (by kernel_rfl) (by decide) (fun K hK => ?_)
        refine Kd.R_append_step (Kd.raw 2) (w0 := w2) w2.heap.size (by rfl) (.tmp 83) (.tmp 85) 22 41 (.agg #[(.slice none 0 0), (.float .f64 0)]) 32 rfl Tryz.underlying22 info41 rfl (by decide) (by omega) (sv u) rows [Value.slice Ap (rd_T41 all j).f0.length cp, Value.float FloatKind.f64 (rd_T41 all j).f1] [Value.slice Ap (rd_T41 all j).f0.length cp, Value.float FloatKind.f64 (rd_T41 all j).f1] (fun _ => True) (fun _ => False) rfl rfl ⟨rfl, rfl, by simp [Value.oneCell']⟩ (fun _ h => h.elim) (fun _ _ => trivial) ?aO HId.out.below HId.out.below.size ?aL ?_
        (case aO => exact HrR.out)
        (case aL => omega)
        intro v1 w8 hR8 hb8 hg8 hat8
        obtain ⟨⟨Au, nu, cu⟩, hv1, hN8⟩ := inner_more hrl HrR.out Hrf.out HFp7.out hg8 hR8
        have hv1' : v1 = .slice Au nu cu := hv1
        clear hv1
        subst hv1'
        have c0' := hg8.cell c0 hne1
        have c1'' := hg8.cell c1' hne2
        have c2'' := hg8.cell c2' hne2
        have f0' : w8.frozen? ⟨gb, jj, none⟩ = false := (hg8.frozen_far ⟨gb, jj, none⟩ (World.block_lt_of_cell? _ _ c0) hne1).trans Hf0.out
        have HN8 := hid hN8
        have Hg8 := hid hg8
        have Hat8 := hid hat8
        clear hN8 hg8 hat8 hb8 hR8
        refine hK.out _ _ ⟨c0', c1'', c2''⟩ (fun hHeld => ?_)
        clear hK K
        refine norm_ (a' := ?_) ?_ ?_
        rotate_left
        · show Act.put _ (some 86) _ = _
          simp only [Act.put, List.setIfInBounds_toArray, List.set_cons_zero, List.set_cons_succ, i64_w, i32_w]
          rfl
        refine pure_ (i := 9) (N := some 87) (v := ?_) (a' := ?_) #[true, true, true, true, true, true, true, true, true, true, false] rfl rfl (by kernel_rfl) (fun _ _ _ h => h) (Or.inl ⟨by rfl, ?_⟩) ?_ ?_
        rotate_left
        · intro w'
          go_simp
          with_reducible rfl
        rotate_left
        · simp only [Act.put, List.setIfInBounds_toArray, List.set_cons_zero, List.set_cons_succ, i64_w, i32_w]
          rfl
        refine last_ (i := 10) (N := none) #[true, true, true, true, true, true, true, true, true, true, true] rfl rfl (by kernel_rfl) (by decide) (fun K hK => ?_)
        refine skip_ (w1 := ?_) (by rfl) rfl ?_ ?_
        rotate_left
        · go_simp
          rfl
        obtain ⟨hRw, hg9⟩ := rows_put (u' := (Au, nu, cu)) h1 H3.out H4.out H2.out hu ho Hg8.out Hat8.out HN8.out
        have hTg := Kd.R_typed H2.out gb (by simp [Value.ownBlock])
        have hb8 := gbase_typed HId.out.toGBase Hg8.out rfl (q := 41) (by decide) (Kd.N_base (H3.out jj u o hu ho)) (Kd.N_typed (H3.out jj u o hu ho))
        have hTg8 : ∃ c, w8.heap[gb]? = some (.cells c 22 (0, 0)) := by
          obtain ⟨c, hc⟩ := hTg
          exact ⟨c, (Hg8.out.block gb (Array.getElem?_eq_some_iff.1 hc).1 hne1).trans hc⟩
        have hb9 := gbase_typed hb8 hg9 rfl (q := 22) (by decide) (fun k hk => by injection hk with hk; subst hk; exact Kd.R_base H2.out gb (by simp [Value.ownBlock])) (fun k hk => by injection hk with hk; subst hk; exact hTg8)
        have hI9 : GInv w2.heap.size (w8.setCell ⟨gb, jj, none⟩ (sv (Au, nu, cu))).heap.size w2 (w8.setCell ⟨gb, jj, none⟩ (sv (Au, nu, cu))) w2.heap.size (w2.heap.size + 1) (.slice (some ⟨gb, 0, none⟩) vs.length cap) (st1.put (strOfNums kb1).data.toList (rd_T41 all j)) :=
          { below := hb9.below, map := hb9.map, mpB := hb9.mpB, bxB := hb9.bxB, box := hb9.box, lk := by have := hb9.lk; simpa [GSt.put] using this, ls := by have := hb9.ls; simpa [GSt.put] using this,
            rows := by
              have e : (st1.put (strOfNums kb1).data.toList (rd_T41 all j)).outs = st1.outs.set jj (o ++ [rd_T41 all j]) := by simp only [GSt.put]; rw [← HJ.out, hod]
              rw [e]; exact hRw }
        have HI9 := hid hI9
        clear hI9 hb9 hb8 hTg hTg8 hRw hg9
        refine hK.out _ _ ?_
        clear hK K
        refine done_ (by kernel_rfl) ?_
        go_wp2
        go_roundw
        case rel => exact ⟨j + 1, _, by omega, by go_num, HI9, HR⟩
        case measure => simp [intOf]; omega
      | false =>
        have hm : (strOfNums kb1).data.toList ∉ st.ks := of_decide_eq_false hmem
        rw [hmem, if_neg hm] at hlook
        have hss : (strOfNums kb1).size ≤ maxLen := by have := HM.out; simp [strOfNums, ByteArray.size, maxLen]; omega
        have hlo := HL1.out
        have hls := HI6.out.ls
        have hlk := HI6.out.lk
        obtain ⟨w7, hup, hmap7, hg7⟩ := imap_store HI6.out.map (by rw [hls]; simp [maxLen]; omega) (strOfNums kb1) hss hm (by omega)
        rw [hls] at hup
        obtain ⟨A13, c13, rfl⟩ : ∃ A c, u13 = .slice A st.outs.length c := by
          obtain ⟨vs, h1, h2, _⟩ := HI6.out.rows.ex
          obtain ⟨A, c, rfl⟩ := Kd.R_slice h2
          exact ⟨A, c, by rw [h1]⟩
        obtain ⟨vk, hbox, hkeys⟩ := HI6.out.box
        obtain ⟨esm, clm, hblm⟩ := imap_block HI6.out.map
        have hbx7 : w7.heap[w2.heap.size + 1]? = some (.cells #[vk] 108 (0, 0)) := (hg7.block _ (Array.getElem?_eq_some_iff.1 hbox).1 (by simp)).trans hbox
        have hkeys7 := R_kept hkeys hg7 (fun k q c hk _ => by injection hk with hk; subst hk; rw [hblm]; simp)
        have hrows7 := rows_kept HI6.out.rows hg7 (fun k hk => by injection hk with hk; omega) (fun k q c hk _ => by injection hk with hk; subst hk; rw [hblm]; simp)
        have hbel7 := HI6.out.below.trans (grown_below hg7 (fun k hk => by injection hk with hk; omega) HI6.out.below.size)
        have hP7 := (hg7.block _ (Array.getElem?_eq_some_iff.1 HP6.out).1 (by have := HSx0.out; simp; omega)).trans HP6.out
        have hOg7 := R_kept HOg6.out hg7 (fun k q c hk _ => by injection hk with hk; subst hk; rw [hblm]; simp)
        have hs7 := hg7.size
        have HMap7 := hid hmap7
        have HBx7 := hid hbx7
        have HK7 := hid hkeys7
        have HRw7 := hid hrows7
        have HBel7 := hid hbel7
        have HP7 := hid hP7
        have HOg7 := hid hOg7
        have cb7 : w7.cell? ⟨w2.heap.size + 1, 0, none⟩ = some vk := (blk_cell hbx7 0).trans rfl
        have HLK := hid hlk
        have HLS := hid hls
        clear hmap7 hbx7 hkeys7 hrows7 hbel7 hP7 hOg7 hbox hkeys hblm hg7 hlk hls
        go_wp2_with (first
          | ((with_reducible refine gate_builtin (b := .append) (xs := #[.tmp 71, .tmp 73]) rfl ?_); at_builtin
             refine Kd.R_append (Kd.slice 89 k89) (w0 := w2) w2.heap.size rfl (.tmp 71) (.tmp 73) 108 39 (.slice none 0 0) 24 rfl Tryz.underlying108 info39 rfl (by decide) (by omega) vk st.keys g [Value.slice Ag g.length cg] (fun _ => True) (fun k_ => True ∧ some k_ ≠ vk.ownBlock) rfl rfl ?aP (fun _ h => h) (fun _ _ => trivial) HK7.out HBel7.out HBel7.out.size ?aL ?_
             (case aP => exact Kd.M_row (Kd.R_lower (Kd.R_apart' HOg7.out (Kd.R_typed HK7.out) (by decide)) (by have := HS4.out; have := HSx0.out; omega)))
             (case aL => have := HLK.out; omega)
             intro v8 w8 hk8 hb8 hg8 hat8
             obtain ⟨A8, c8, e8⟩ := Kd.R_slice hk8
             have e8' : v8 = .slice A8 (st.keys.length + 1) c8 := by rw [e8]; simp
             subst e8'
             clear e8
             have hty8 := Kd.R_typed HK7.out
             have hB8 := Kd.R_base HK7.out
             have hbx8 := box_t HBx7.out hg8 39 (by decide) hty8
             have HMap9 := hid (imap_t (imap_t HMap7.out hg8 39 hty8) (grown_set w8 (w2.heap.size + 1) 0 (.slice A8 (st.keys.length + 1) c8)) 108 (fun k hk => by injection hk with hk; subst hk; exact ⟨_, hbx8⟩))
             have HK9 := hid (R_t hk8 (grown_set w8 (w2.heap.size + 1) 0 (.slice A8 (st.keys.length + 1) c8)) 108 (by decide) (fun k hk => by injection hk with hk; subst hk; exact ⟨_, hbx8⟩))
             have HBx9 := hid (blk_put hbx8 0 (.slice A8 (st.keys.length + 1) c8) (cs' := #[.slice A8 (st.keys.length + 1) c8]) rfl)
             have HRw9 := hid (rows_t (rows_t HRw7.out hg8 hB8 39 (by decide) hty8) (grown_set w8 (w2.heap.size + 1) 0 (.slice A8 (st.keys.length + 1) c8)) (fun k hk => by injection hk with hk; omega) 108 (by decide) (fun k hk => by injection hk with hk; subst hk; exact ⟨_, hbx8⟩))
             have HP9 := hid (box_t (box_t HP7.out hg8 39 (by decide) hty8) (grown_set w8 (w2.heap.size + 1) 0 (.slice A8 (st.keys.length + 1) c8)) 108 (by decide) (fun k hk => by injection hk with hk; subst hk; exact ⟨_, hbx8⟩))
             have HBel9 := hid (hb8.trans (grown_below (grown_set w8 (w2.heap.size + 1) 0 (.slice A8 (st.keys.length + 1) c8)) (fun k hk => by injection hk with hk; omega) hb8.size))
             have cb8 : w8.cell? ⟨w2.heap.size + 1, 0, none⟩ = some vk := (blk_cell hbx8 0).trans rfl
             have fb8 : w8.frozen? ⟨w2.heap.size + 1, 0, none⟩ = false := blk_frozen hbx8 0
             have hs8 := hg8.size
             clear hty8 hB8 hbx8 hk8 hb8 hg8 hat8 HMap7 HK7 HBx7 HRw7 HP7 HBel7 HOg7)
          | ((with_reducible refine gate_builtin (b := .append) (xs := #[.tmp 75, .tmp 76]) rfl ?_); at_builtin
             refine Hid.out ?_))
        refine hid ?_
        obtain ⟨vsn, hn1, hn2, hn3, hn4, hn5⟩ := HRw9.out.ex
        refine Kd.R_append slK (w0 := w2) w2.heap.size rfl (.tmp 75) (.tmp 76) 49 22 (.slice none 0 0) 24 rfl Tryz.underlying49 info22 rfl (by decide) (by omega) (.slice A13 st.outs.length c13) vsn ((none, 0, 0) : SL) [.slice none 0 0] (fun _ => True) (fun _ => False) rfl (by first | (go_simp; done) | (go_simp; rfl)) rfl (fun _ h => h.elim) (fun _ _ => trivial) hn2 HBel9.out HBel9.out.size ?aL ?_
        (case aL => rw [hn1]; omega)
        intro v10 w10 hr10 hb10 hg10 hat10
        have hty := Kd.R_typed hn2
        have HRw10 := hid (rows_app vsn hn1 hn3 hn4 hn5 hn2 hg10 hr10)
        have HMap10 := hid (imap_t HMap9.out hg10 22 hty)
        have HK10 := hid (R_t HK9.out hg10 22 (by decide) hty)
        have HBx10 := hid (box_t HBx9.out hg10 22 (by decide) hty)
        have HP10 := hid (box_t HP9.out hg10 22 (by decide) hty)
        have HBel10 := hid hb10
        clear hn1 hn2 hn3 hn4 hn5 vsn hr10 hb10 hg10 hat10 hty HMap9 HK9 HBx9 HRw9 HP9 HBel9
        go_wp2_with fail
        obtain ⟨st1, hst1⟩ : ∃ s, s = st.met g (strOfNums kb1).data.toList := ⟨_, rfl⟩
        have hst2 : st1 = ⟨st.keys ++ [g], st.ks ++ [(strOfNums kb1).data.toList], st.outs ++ [[]]⟩ := by rw [hst1]; simp [GSt.met, hm]
        rw [← hst1] at HL2 HR
        obtain ⟨jj, hjj⟩ : ∃ jj, jj = st1.ks.idxOf (strOfNums kb1).data.toList := ⟨_, rfl⟩
        have hje : st.outs.length = jj := by
          rw [hjj, hst2, ← HLS.out]
          simp [List.idxOf_append, hm]
        have hjl : jj < st1.outs.length := by rw [hst2, ← hje]; simp
        have HIx : Hid (GInv w2.heap.size wr.heap.size w2 w10 w2.heap.size (w2.heap.size + 1) v10 st1) := hid
          { below := HBel10.out, map := by have := HMap10.out; rw [hst2]; simpa using this, mpB := Nat.le_refl _, bxB := by omega, box := ⟨_, HBx10.out, by rw [hst2]; exact HK10.out⟩,
            lk := by have := HLK.out; rw [hst2]; simp [this], ls := by have := HLS.out; rw [hst2]; simp [this], rows := by rw [hst2]; exact HRw10.out }
        have HJ := hid hjj
        have HPx := HP10
        simp only [hje]
        clear hm hst2 hmem hst1 hjj hje
        have hId := ginv_below HIx.out rfl (below_drew (Below.refl _ _))
        have hPd : w10.drew.heap[wr.heap.size]? = some (Obj.cells #[Value.slice Ap (rd_T41 all j).f0.length cp, Value.float FloatKind.f64 (rd_T41 all j).f1] 41) := HPx.out
        obtain ⟨vs, h1, h2, h3, h4, h5⟩ := hId.rows.ex
        have hjv : jj < vs.length := by omega
        obtain ⟨u, hu⟩ : ∃ u, vs[jj]? = some u := ⟨vs[jj], List.getElem?_eq_getElem _⟩
        obtain ⟨o, ho⟩ : ∃ o, st1.outs[jj]? = some o := ⟨st1.outs[jj], List.getElem?_eq_getElem _⟩
        obtain ⟨gb, cap, rfl⟩ : ∃ gb cap, v10 = .slice (some ⟨gb, 0, none⟩) vs.length cap := by
          obtain ⟨A, c, rfl⟩ := Kd.R_slice h2
          obtain ⟨_, _, hC⟩ := Kd.R_reads' h2
          obtain ⟨ad, c', rfl, _⟩ := Kd.C_get hC ((none, 0, 0) : SL) (jj : Int) (by omega) (by omega)
          obtain ⟨gb, rfl⟩ := Kd.R_head h2
          exact ⟨gb, c, rfl⟩
        obtain ⟨cz, hcl, hcM, hcc, hfr⟩ := Kd.R_elem h2 ((none, 0, 0) : SL) (jj : Int) (by omega) (by omega)
        have hcz : cz = [sv u] := by
          have h : cz = [sv (vs.getD (jj : Int).toNat (none, 0, 0))] := hcM
          rw [h]; simp [List.getD_eq_getElem?_getD, hu]
        subst hcz
        have c0 : w10.drew.cell? ⟨gb, jj, none⟩ = some (.slice u.1 u.2.1 u.2.2) := by have := hcc 0 _ rfl; simpa [slK, Kd.scalar, sv] using this
        have f0 : w10.drew.frozen? ⟨gb, jj, none⟩ = false := by have := hfr 0; simpa [slK, Kd.scalar] using this
        have c1' : w10.drew.cell? ⟨wr.heap.size, 0, none⟩ = some (Value.slice Ap (rd_T41 all j).f0.length cp) := (blk_cell hPd 0).trans rfl
        have c2' : w10.drew.cell? ⟨wr.heap.size, 1, none⟩ = some (Value.float FloatKind.f64 (rd_T41 all j).f1) := (blk_cell hPd 1).trans rfl
        refine start_ (n := 11) (S := fun w' => w'.cell? ⟨gb, jj, none⟩ = some (.slice u.1 u.2.1 u.2.2) ∧ w'.cell? ⟨wr.heap.size, 0, none⟩ = some (Value.slice Ap (rd_T41 all j).f0.length cp) ∧ w'.cell? ⟨wr.heap.size, 1, none⟩ = some (Value.float FloatKind.f64 (rd_T41 all j).f1)) (ds := [10]) #[false, false, false, false, false, false, false, false, false, false, false] (by kernel_rfl) rfl rfl ⟨c0, c1', c2'⟩ (fun hHeld => ?_)
        have hsz : (rd_L5 st1.outs (jj : Int)).length < 1048576 := by have := HL2.out; rw [← HJ.out] at this; exact this
        have hod : rd_L5 st1.outs (jj : Int) = o := by simp [rd_L5, List.getD_eq_getElem?_getD, ho]
        have hFp : Kd.FK k41 w10.drew (fun k => k < w2.heap.size) (rd_T41 all j) [Value.slice Ap (rd_T41 all j).f0.length cp, Value.float FloatKind.f64 (rd_T41 all j).f1] := by
          have := HFp.out
          exact Kd.FK_step this (fun k hk _ => hId.below.block k hk)
        generalize w10.drew = w7 at hId hPd h2 h3 hcc hfr c0 f0 c1' c2' hHeld hFp ⊢
        have hs7 : wr.heap.size < w7.heap.size := (Array.getElem?_eq_some_iff.1 hPd).1
        obtain ⟨rows, hrl, hrR, hrf⟩ := inner_open (h3 jj u o hu ho)
        have hrn : rows.length < 1048576 := by rw [hrl, ← hod]; exact hsz
        have HId := hid hId
        have HPd := hid hPd
        have H2 := hid h2
        have H3 := hid h3
        have H4 := hid h4
        have HFp7 := hid hFp
        have HrR := hid hrR
        have Hrf := hid hrf
        have Hf0 := hid f0
        have q0 : (0 ≤ (jj : Int)) = True := eq_true (by omega)
        have q1 : ((jj : Int) < (vs.length : Int)) = True := eq_true (by omega)
        clear hId hPd h2 h3 h4 hFp hrR hrf f0 hcc hfr hcM hcl
        refine pure_ (i := 0) (N := some 78) (v := ?_) (a' := ?_) #[true, false, false, false, false, false, false, false, false, false, false] rfl rfl (by kernel_rfl) (fun _ _ _ h => h) (Or.inl ⟨by rfl, ?_⟩) ?_ ?_
        rotate_left
        · intro w'
          go_simp
          with_reducible rfl
        rotate_left
        · simp only [Act.put, List.setIfInBounds_toArray, List.set_cons_zero, List.set_cons_succ, i64_w, i32_w]
          rfl
        refine pure_ (i := 1) (N := some 79) (v := ?_) (a' := ?_) #[true, true, false, false, false, false, false, false, false, false, false] rfl rfl (by kernel_rfl) (fun _ _ _ h => h) (Or.inl ⟨by rfl, ?_⟩) ?_ ?_
        rotate_left
        · intro w'
          go_simp
          with_reducible rfl
        rotate_left
        · simp only [Act.put, List.setIfInBounds_toArray, List.set_cons_zero, List.set_cons_succ, i64_w, i32_w]
          rfl
        refine pure_ (i := 2) (N := some 80) (v := ?_) (a' := ?_) #[true, true, true, false, false, false, false, false, false, false, false] rfl rfl (by kernel_rfl) (fun _ _ _ h => h) (Or.inl ⟨by rfl, ?_⟩) ?_ ?_
        rotate_left
        · intro w'
          go_simp
          with_reducible rfl
        rotate_left
        · simp only [Act.put, List.setIfInBounds_toArray, List.set_cons_zero, List.set_cons_succ, i64_w, i32_w]
          rfl
        refine pure_ (i := 3) (N := some 81) (v := ?_) (a' := ?_) #[true, true, true, true, false, false, false, false, false, false, false] rfl rfl (by kernel_rfl) (fun _ _ _ h => h) (Or.inl ⟨by rfl, ?_⟩) ?_ ?_
        rotate_left
        · intro w'
          go_simp
          with_reducible rfl
        rotate_left
        · simp only [Act.put, List.setIfInBounds_toArray, List.set_cons_zero, List.set_cons_succ, i64_w, i32_w]
          rfl
        refine pure_ (i := 4) (N := some 82) (v := ?_) (a' := ?_) #[true, true, true, true, true, false, false, false, false, false, false] rfl rfl (by kernel_rfl) (fun _ _ _ h => h) (Or.inl ⟨by rfl, ?_⟩) ?_ ?_
        rotate_left
        · intro w'
          go_simp
          with_reducible rfl
        rotate_left
        · simp only [Act.put, List.setIfInBounds_toArray, List.set_cons_zero, List.set_cons_succ, i64_w, i32_w]
          rfl
        refine take_ (i := 5) (N := some 83) (v := ?_) (a' := ?_) #[true, true, true, true, true, true, false, false, false, false, false] rfl rfl (by kernel_rfl) (fun _ _ _ h => h) (Or.inl ⟨by rfl, ?_⟩) hHeld ?_ ?_
        rotate_left
        · rintro w' ⟨s0, s1, s2⟩
          go_simp
          with_reducible rfl
        rotate_left
        · simp only [Act.put, List.setIfInBounds_toArray, List.set_cons_zero, List.set_cons_succ, i64_w, i32_w]
          rfl
        refine take_ (i := 6) (N := some 84) (v := ?_) (a' := ?_) #[true, true, true, true, true, true, true, false, false, false, false] rfl rfl (by kernel_rfl) (fun _ _ _ h => h) (Or.inl ⟨by rfl, ?_⟩) hHeld ?_ ?_
        rotate_left
        · rintro w' ⟨s0, s1, s2⟩
          go_simp
          with_reducible rfl
        rotate_left
        · simp only [Act.put, List.setIfInBounds_toArray, List.set_cons_zero, List.set_cons_succ, i64_w, i32_w]
          rfl
        refine one_ (i := 7) (N := some 85) #[true, true, true, true, true, true, true, true, false, false, false] rfl rfl (by kernel_rfl) (by decide) (fun K hK => ?_)
        refine value_ (w1 := ?_) (v := ?_) (by rfl) rfl ?_ ?_
        rotate_left 2
        · go_simp
          constructor
          · rfl
          · rfl
        refine hK.out _ _ ⟨(World.cell?_alloc_lt _ _ _ (World.block_lt_of_cell? _ _ c0)).trans c0, (World.cell?_alloc_lt _ _ _ (World.block_lt_of_cell? _ _ c1')).trans c1', (World.cell?_alloc_lt _ _ _ (World.block_lt_of_cell? _ _ c2')).trans c2'⟩ (fun hHeld => ?_)
        clear hK K
        refine norm_ (a' := ?_) ?_ ?_
        rotate_left
        · show Act.put _ (some 85) _ = _
          simp only [Act.put, List.setIfInBounds_toArray, List.set_cons_zero, List.set_cons_succ, i64_w, i32_w]
          rfl
        have hne1 : some gb ≠ (sv u).ownBlock := by
          obtain ⟨cc, hcc⟩ := Kd.R_typed H2.out gb (by simp [Value.ownBlock])
          exact Kd.R_ne HrR.out hcc (by decide)
        have hne2 : some wr.heap.size ≠ (sv u).ownBlock := fun he => by have := h5 jj u hu _ he.symm; omega
        refine one_ (i := 8) (N := some 86) #[true, true, true, true, true, true, true, true, true, false, false] rfl rfl (by kernel_rfl) (by decide) (fun K hK => ?_)
        refine Kd.R_append_step (Kd.raw 2) (w0 := w2) w2.heap.size (by rfl) (.tmp 83) (.tmp 85) 22 41 (.agg #[(.slice none 0 0), (.float .f64 0)]) 32 rfl Tryz.underlying22 info41 rfl (by decide) (by omega) (sv u) rows [Value.slice Ap (rd_T41 all j).f0.length cp, Value.float FloatKind.f64 (rd_T41 all j).f1] [Value.slice Ap (rd_T41 all j).f0.length cp, Value.float FloatKind.f64 (rd_T41 all j).f1] (fun _ => True) (fun _ => False) rfl rfl ⟨rfl, rfl, by simp [Value.oneCell']⟩ (fun _ h => h.elim) (fun _ _ => trivial) ?aO HId.out.below HId.out.below.size ?aL ?_
        (case aO => exact HrR.out)
        (case aL => omega)
        intro v1 w8 hR8 hb8 hg8 hat8
        obtain ⟨⟨Au, nu, cu⟩, hv1, hN8⟩ := inner_more hrl HrR.out Hrf.out HFp7.out hg8 hR8
        have hv1' : v1 = .slice Au nu cu := hv1
        clear hv1
        subst hv1'
        have c0' := hg8.cell c0 hne1
        have c1'' := hg8.cell c1' hne2
        have c2'' := hg8.cell c2' hne2
        have f0' : w8.frozen? ⟨gb, jj, none⟩ = false := (hg8.frozen_far ⟨gb, jj, none⟩ (World.block_lt_of_cell? _ _ c0) hne1).trans Hf0.out
        have HN8 := hid hN8
        have Hg8 := hid hg8
        have Hat8 := hid hat8
        clear hN8 hg8 hat8 hb8 hR8
        refine hK.out _ _ ⟨c0', c1'', c2''⟩ (fun hHeld => ?_)
        clear hK K
        refine norm_ (a' := ?_) ?_ ?_
        rotate_left
        · show Act.put _ (some 86) _ = _
          simp only [Act.put, List.setIfInBounds_toArray, List.set_cons_zero, List.set_cons_succ, i64_w, i32_w]
          rfl
        refine pure_ (i := 9) (N := some 87) (v := ?_) (a' := ?_) #[true, true, true, true, true, true, true, true, true, true, false] rfl rfl (by kernel_rfl) (fun _ _ _ h => h) (Or.inl ⟨by rfl, ?_⟩) ?_ ?_
        rotate_left
        · intro w'
          go_simp
          with_reducible rfl
        rotate_left
        · simp only [Act.put, List.setIfInBounds_toArray, List.set_cons_zero, List.set_cons_succ, i64_w, i32_w]
          rfl
        refine last_ (i := 10) (N := none) #[true, true, true, true, true, true, true, true, true, true, true] rfl rfl (by kernel_rfl) (by decide) (fun K hK => ?_)
        refine skip_ (w1 := ?_) (by rfl) rfl ?_ ?_
        rotate_left
        · go_simp
          rfl
        obtain ⟨hRw, hg9⟩ := rows_put (u' := (Au, nu, cu)) h1 H3.out H4.out H2.out hu ho Hg8.out Hat8.out HN8.out
        have hTg := Kd.R_typed H2.out gb (by simp [Value.ownBlock])
        have hb8 := gbase_typed HId.out.toGBase Hg8.out rfl (q := 41) (by decide) (Kd.N_base (H3.out jj u o hu ho)) (Kd.N_typed (H3.out jj u o hu ho))
        have hTg8 : ∃ c, w8.heap[gb]? = some (.cells c 22 (0, 0)) := by
          obtain ⟨c, hc⟩ := hTg
          exact ⟨c, (Hg8.out.block gb (Array.getElem?_eq_some_iff.1 hc).1 hne1).trans hc⟩
        have hb9 := gbase_typed hb8 hg9 rfl (q := 22) (by decide) (fun k hk => by injection hk with hk; subst hk; exact Kd.R_base H2.out gb (by simp [Value.ownBlock])) (fun k hk => by injection hk with hk; subst hk; exact hTg8)
        have hI9 : GInv w2.heap.size (w8.setCell ⟨gb, jj, none⟩ (sv (Au, nu, cu))).heap.size w2 (w8.setCell ⟨gb, jj, none⟩ (sv (Au, nu, cu))) w2.heap.size (w2.heap.size + 1) (.slice (some ⟨gb, 0, none⟩) vs.length cap) (st1.put (strOfNums kb1).data.toList (rd_T41 all j)) :=
          { below := hb9.below, map := hb9.map, mpB := hb9.mpB, bxB := hb9.bxB, box := hb9.box, lk := by have := hb9.lk; simpa [GSt.put] using this, ls := by have := hb9.ls; simpa [GSt.put] using this,
            rows := by
              have e : (st1.put (strOfNums kb1).data.toList (rd_T41 all j)).outs = st1.outs.set jj (o ++ [rd_T41 all j]) := by simp only [GSt.put]; rw [← HJ.out, hod]
              rw [e]; exact hRw }
        have HI9 := hid hI9
        clear hI9 hb9 hb8 hTg hTg8 hRw hg9
        refine hK.out _ _ ?_
        clear hK K
        refine done_ (by kernel_rfl) ?_
        go_wp2
        go_roundw
        case rel => exact ⟨j + 1, _, by omega, by go_num, HI9, HR⟩
        case measure => simp [intOf]; omega
    · obtain rfl : j = all.length := by omega
      have hfin : st = fin := by have := HG.out; rw [List.drop_length] at this; exact Option.some.inj this
      subst hfin
      have HFl := hid hfl
      have HIe := HI
      clear hmm hmax hj hlt HI HG
      have HI := HIe
      clear HIe
      obtain ⟨A13, c13, rfl⟩ : ∃ A c, u13 = .slice A st.outs.length c := by
        obtain ⟨vs, h1, h2, _⟩ := HI.out.rows.ex
        obtain ⟨A, c, rfl⟩ := Kd.R_slice h2
        exact ⟨A, c, by rw [h1]⟩
      clear hfl
      go_wp2_with (first
        | ((with_reducible refine gate_dst (N := 91) rfl ?_)
           refine Kd.R_make (Kd.int .i64) (w0 := w2) w2.heap.size 3 rfl (N := 91) rfl 113 _ _ rfl (st.outs.length : Int) rfl rfl Tryz.underlying113 (.int .i64 0) 8 info3 rfl (by decide) (by omega) (0 : Int) (ok := fun _ => True) (okp := fun _ => False) rfl (fun _ h => h.elim) trivial (by omega) (by have := HFl.out; omega) HI.out.below HI.out.below.size ?_
           intro v21 wm hrm hbm hgm hatm
           have HIm := hid (ginv_kept HI.out hgm rfl (fun k e => by cases e) (by simp) (by simp) (fun k q c e => by cases e))
           have HRm := hid (show (Kd.int .i64).R 3 wm w2.heap.size (fun _ => True) v21 (ordl st.outs.length 0) from by rw [← ordl_zero]; simpa using hrm)
           obtain ⟨A21, c21, e21⟩ := Kd.R_slice HRm.out
           have e21' : v21 = .slice A21 st.outs.length c21 := by rw [e21]; simp [ordl]
           subst e21'
           clear e21 hrm hbm hgm hatm))
      go_loopw [94] (fun i wr2 => ∃ m : Nat, m ≤ st.outs.length ∧ i = .int .i64 m ∧ Hid (∃ lim, GInv w2.heap.size lim w2 wr2 w2.heap.size (w2.heap.size + 1) (.slice A13 st.outs.length c13) st) ∧ Hid ((Kd.int .i64).R 3 wr2 w2.heap.size (fun _ => True) (.slice A21 st.outs.length c21) (ordl st.outs.length m))) (fun i _ => st.outs.length - (intOf i).toNat)
      case atStart => exact ⟨0, Nat.zero_le _, rfl, hid ⟨_, HIm.out⟩, HRm⟩
      case round =>
        obtain ⟨m, hm, rfl, HI2, HR2'⟩ := hrel
        clear HIm HRm
        by_cases hlt2 : m < st.outs.length
        · obtain ⟨lim2, HI2⟩ := HI2.out
          obtain ⟨-, -, hC⟩ := Kd.R_reads' HR2'.out
          obtain ⟨ad2, _, rfl, -⟩ := Kd.C_get hC (0 : Int) (m : Int) (by omega) (by simp [ordl]; omega)
          obtain ⟨gi, rfl⟩ := Kd.R_head HR2'.out
          obtain ⟨cz, hcl, hcM, hcc, hfr⟩ := Kd.R_elem HR2'.out (0 : Int) (m : Int) (by omega) (by omega)
          have hcz : cz = [.int .i64 ((ordl st.outs.length m).getD (m : Int).toNat 0)] := hcM
          subst hcz
          have ce : wr.cell? ⟨gi, m, none⟩ = some (.int .i64 ((ordl st.outs.length m).getD (m : Int).toNat 0)) := by have := hcc 0 _ rfl; simpa [Kd.int, Kd.scalar] using this
          generalize (ordl st.outs.length m).getD (m : Int).toNat 0 = z0 at ce
          have fe : wr.frozen? ⟨gi, m, none⟩ = false := by have := hfr 0; simpa [Kd.int, Kd.scalar] using this
          have hty := Kd.R_typed HR2'.out gi (by simp [Value.ownBlock])
          have hbs := Kd.R_base HR2'.out gi (by simp [Value.ownBlock])
          have hgs := grown_set wr gi m (.int .i64 (m : Int))
          have HI3 : Hid (∃ lim, GInv w2.heap.size lim w2 (wr.setCell ⟨gi, m, none⟩ (.int .i64 (m : Int))) w2.heap.size (w2.heap.size + 1) (.slice A13 st.outs.length c13) st) := hid ⟨lim2, { toGBase := gbase_typed HI2.toGBase hgs rfl (q := 3) (by decide) (fun k hk => by injection hk with hk; subst hk; exact hbs) (fun k hk => by injection hk with hk; subst hk; exact hty), rows := rows_t HI2.rows hgs (fun k hk => by injection hk with hk; subst hk; exact hbs) 3 (by decide) (fun k hk => by injection hk with hk; subst hk; exact hty) }⟩
          have HR3 : Hid ((Kd.int .i64).R 3 (wr.setCell ⟨gi, m, none⟩ (.int .i64 (m : Int))) w2.heap.size (fun _ => True) (.slice (some ⟨gi, 0, none⟩) st.outs.length c21) (ordl st.outs.length (m + 1))) := hid (by
            have := Kd.R_putn (enc := Value.int .i64) (h1 := fun _ => rfl) HR2'.out (m : Int) (m : Int)
            simp only [Int.toNat_natCast] at this
            rw [← ordl_step _ _ hlt2]; exact this)
          clear hC hcl hcM hcc hfr hty hbs hgs HI2 HR2'
          have HLt := hid hlt2
          have hmx : st.outs.length ≤ 9223372036854775807 := by have := HFl.out; omega
          go_wp2
          go_roundw
          case rel =>
            have := HFl.out
            have := HLt.out
            exact ⟨m + 1, by omega, by go_num, HI3, HR3⟩
          case measure =>
            have := HFl.out
            have := HLt.out
            simp [intOf]; omega
        · obtain rfl : m = st.outs.length := by omega
          go_wp2_with fail
          obtain ⟨lim3, HI3⟩ := HI2.out
          obtain ⟨vk, hbox, hkeys⟩ := HI3.box
          have hlk := HI3.lk
          have HRo := hid (show (Kd.int .i64).R 3 wr w2.heap.size (fun _ => True) (.slice A21 st.outs.length c21) ((List.finRange st.outs.length).map fun i => (i.1 : Int)) from by rw [← ordl_all]; exact HR2'.out)
          have hty := Kd.R_typed HRo.out
          refine (sort_fin st.outs.length (by have := HFl.out; omega) (fun x y => cmpLs (st.keys.getD x.1 []) (st.keys.getD y.1 [])) (swo_sub cmpLs_lin.swo fun x : Fin st.outs.length => st.keys.getD x.1 []) 88 #[.pointer (some ⟨w2.heap.size + 1, 0, none⟩)] (enters_of Tryz.func88 (by kernel_rfl) rfl) w2.heap.size (fun _ => True) _ wr HRo.out (fun W' x y hk => ?_)).mono ?_
          · have hg := kept_grown hk
            have h1 := groupsLess_calls W' w2.heap.size (w2.heap.size + 1) (fun _ => True) vk st.keys (box_t hbox hg 3 (by decide) hty) (R_t hkeys hg 3 (by decide) hty) x.1 y.1 (by omega) (by omega)
            have e1 : st.keys.getD x.1 [] = st.keys[x.1]'(by omega) := by simp [List.getD_eq_getElem?_getD, show x.1 < st.keys.length by omega]
            have e2 : st.keys.getD y.1 [] = st.keys[y.1]'(by omega) := by simp [List.getD_eq_getElem?_getD, show y.1 < st.keys.length by omega]
            rw [e1, e2]
            exact h1
          rintro e ws ⟨rfl, ys, hperm, hsorted, hRs, hks⟩
          have hgs := kept_grown hks
          have hbs := Kd.R_base HRo.out
          have HI4 := hid (ginv_lim { toGBase := gbase_typed HI3.toGBase hgs rfl (q := 3) (by decide) hbs hty, rows := rows_t HI3.rows hgs hbs 3 (by decide) hty : GInv w2.heap.size lim3 w2 ws w2.heap.size (w2.heap.size + 1) (.slice A13 st.outs.length c13) st })
          have HRs := hid hRs
          have HPm := hid hperm
          have HSd := hid hsorted
          clear hbox hkeys HRo hty hgs hbs hks hRs HI2 HI3 HR2' hperm hsorted
          obtain ⟨vs, g1, g2, g3, g4, g5⟩ := HI4.out.rows.ex
          have hyl : ys.length = st.outs.length := by have := HPm.out.length_eq; simpa using this
          have HB4 := hid HI4.out.below
          have HG2 := hid g2
          have HG3 := hid g3
          have HG4 := hid g4
          have HG1 := hid g1
          have HYl := hid hyl
          clear g1 g2 g3 g4 g5 hyl HI4
          go_wp2_with fail
          go_loopw [23, 107] (fun v23 i wr2 => ∃ m : Nat, m ≤ st.outs.length ∧ i = .int .i64 m ∧ Hid (Below ws.heap.size ws wr2) ∧ Hid (slK.R 22 wr2 ws.heap.size (fun _ => True) v23 ((ys.take m).map fun y => vs.getD y.1 (none, 0, 0)))) (fun _ i _ => st.outs.length - (intOf i).toNat)
          case atStart => exact ⟨0, Nat.zero_le _, rfl, Below.refl _ _, Kd.R_nil _ _ _ _ _⟩
          case round =>
            obtain ⟨m, hm, rfl, HBw, HRr⟩ := hrel
            have hyl := HYl.out
            have hvl := HG1.out
            by_cases hlt3 : m < st.outs.length
            · obtain ⟨-, -, hC⟩ := Kd.R_reads' HRs.out
              obtain ⟨ad3, e3, x3⟩ := Kd.at_int hC (m : Int) (by omega) (by simp [hyl]; omega)
              subst e3
              obtain ⟨go, rfl⟩ := Kd.R_head HRs.out
              have hym : m < ys.length := by omega
              have hrd : Go.Proofs.YtoncpeadbhgmaaaGreatDoorW.PrintWords.rd (ys.map fun i => (i.1 : Int)) (m : Int) = (ys[m].1 : Int) := by simp [Go.Proofs.YtoncpeadbhgmaaaGreatDoorW.PrintWords.rd, List.getD_eq_getElem?_getD, hym]
              rw [hrd] at x3
              replace x3 := (HBw.out.cell (World.block_lt_of_cell? ws _ x3)).trans x3
              have hyo : ys[m].1 < vs.length := by have := ys[m].2; omega
              obtain ⟨yy, hyy⟩ : ∃ yy, yy = ys[m].1 := ⟨_, rfl⟩
              obtain ⟨-, -, hC2⟩ := Kd.R_reads' HG2.out
              obtain ⟨ad4, _, rfl, -⟩ := Kd.C_get hC2 ((none, 0, 0) : SL) (ys[m].1 : Int) (by omega) (by omega)
              obtain ⟨gb, rfl⟩ := Kd.R_head HG2.out
              obtain ⟨cz, hcl, hcM, hcc, -⟩ := Kd.R_elem HG2.out ((none, 0, 0) : SL) (ys[m].1 : Int) (by omega) (by omega)
              have hcz : cz = [sv (vs.getD (ys[m].1 : Int).toNat (none, 0, 0))] := hcM
              subst hcz
              have x4 : ws.cell? ⟨gb, ys[m].1, none⟩ = some (sv (vs.getD ys[m].1 (none, 0, 0))) := by have := hcc 0 _ rfl; simpa [slK, Kd.scalar, sv] using this
              replace x4 := (HBw.out.cell (World.block_lt_of_cell? ws _ x4)).trans x4
              have htk : (ys.take (m + 1)).map (fun y => vs.getD y.1 (none, 0, 0)) = (ys.take m).map (fun y => vs.getD y.1 (none, 0, 0)) ++ [vs.getD ys[m].1 (none, 0, 0)] := by
                rw [show ys.take (m + 1) = ys.take m ++ [ys[m]] from by rw [List.take_add_one, List.getElem?_eq_getElem hym]; rfl, List.map_append]; rfl
              have HTk := hid htk
              have q0 : (0 ≤ (yy : Int)) = True := eq_true (by omega)
              have q1 : ((yy : Int) < (st.outs.length : Int)) = True := eq_true (by omega)
              
              generalize hgu : vs.getD ys[m].1 (none, 0, 0) = gu at x4 HTk
              obtain ⟨Au, nu, cu⟩ := gu
              have x4' : wr.cell? ⟨gb, yy, none⟩ = some (.slice Au nu cu) := by rw [hyy]; exact x4
              have x3' : wr.cell? ⟨go, m, none⟩ = some (.int .i64 (yy : Int)) := by
                rw [add_at, Nat.zero_add] at x3
                simp only [Int.toNat_natCast] at x3
                rw [hyy]; exact x3
              have HYy := hid hyy
              have HYm := hid hym
              clear x3 x4 hcl hcM hcc hC hC2 hrd hgu htk hyo hyy
              obtain ⟨A23, c23, e23⟩ := Kd.R_slice HRr.out
              go_wp2_with (first
                | ((with_reducible refine gate_builtin (b := .append) (xs := #[.tmp 111, .tmp 116]) rfl ?_); at_builtin
                   refine Hid.out ?_))
              refine hid ?_
              refine Kd.R_append slK (w0 := ws) ws.heap.size rfl (.tmp 111) (.tmp 116) 49 22 (.slice none 0 0) 24 rfl Tryz.underlying49 info22 rfl (by decide) (by omega) _ _ ((Au, nu, cu) : SL) [.slice Au nu cu] (fun _ => True) (fun _ => False) rfl (by first | rfl | (go_simp; done) | (go_simp; rfl)) rfl (fun _ h => h.elim) (fun _ _ => trivial) HRr.out HBw.out HBw.out.size ?aL ?_
              (case aL => simp; have := HFl.out; omega)
              intro v1 w8 hr8 hb8 hg8 hat8
              have HR8 := hid hr8
              have HB8 := hid hb8
              rw [← HTk.out] at hr8
              have HR9 := hid hr8
              clear hr8 hb8 hg8 hat8 HR8
              have HLt := hid hlt3
              have hmx : st.outs.length ≤ 9223372036854775807 := by have := HFl.out; omega
              go_wp2
              go_roundw
              case rel =>
                have := HFl.out
                have := HLt.out
                exact ⟨m + 1, by omega, by go_num, HB8, HR9⟩
              case measure =>
                have := HFl.out
                have := HLt.out
                simp [intOf]; omega
            · obtain rfl : m = st.outs.length := by omega
              have HBf := hid (show Below w.heap.size w wr from (HB1.out.trans (Below.mono HB2.out (HB1.out.size))).trans (Below.mono (HB4.out.trans (Below.mono HBw.out HB4.out.size)) (Nat.le_trans HB1.out.size HB2.out.size)))
              go_wp2
              go_ret2
              refine ⟨_, rfl, w2.heap.size, ys, HPm.out, HSd.out.imp (fun h => by omega), Nat.le_trans HB1.out.size HB2.out.size, ?_, HBf.out⟩
              have hyl' := HYl.out
              have hvl' := HG1.out
              have hRf : slK.R 22 wr w2.heap.size (fun _ => True) u23 (ys.map fun y => vs.getD y.1 (none, 0, 0)) := by
                have h := HRr.out
                rw [List.take_of_length_le (by omega)] at h
                exact Kd.R_lower h HB4.out.size
              refine rows_lim (lim := wr.heap.size) ⟨_, by simp, hRf, fun i u o hu ho => ?_, fun i j ui uj hij hui huj b hb => ?_, fun i u hu b hb => ?_⟩
              · rw [List.getElem?_map] at hu ho
                obtain ⟨y, hy, hu⟩ := Option.map_eq_some_iff.1 hu
                obtain ⟨y', hy', ho⟩ := Option.map_eq_some_iff.1 ho
                obtain rfl : y = y' := by rw [hy] at hy'; exact Option.some.inj hy'
                have hyv : y.1 < vs.length := by have := y.2; omega
                have hu' : vs[y.1]? = some u := by rw [← hu, List.getD_eq_getElem?_getD, List.getElem?_eq_getElem hyv]; rfl
                exact Kd.N_below (HG3.out y.1 u o hu' (by rw [← ho]; exact List.getElem?_eq_getElem y.2)) HBw.out
              · rw [List.getElem?_map] at hui huj
                obtain ⟨y, hy, hui⟩ := Option.map_eq_some_iff.1 hui
                obtain ⟨y', hy', huj⟩ := Option.map_eq_some_iff.1 huj
                have hyv : y.1 < vs.length := by have := y.2; omega
                have hyv' : y'.1 < vs.length := by have := y'.2; omega
                have hu' : vs[y.1]? = some ui := by rw [← hui, List.getD_eq_getElem?_getD, List.getElem?_eq_getElem hyv]; rfl
                have hu2 : vs[y'.1]? = some uj := by rw [← huj, List.getD_eq_getElem?_getD, List.getElem?_eq_getElem hyv']; rfl
                have hnd : ys.Nodup := HPm.out.nodup_iff.2 (List.nodup_finRange _)
                obtain ⟨hi, hyi⟩ := List.getElem?_eq_some_iff.1 hy
                obtain ⟨hj, hyj⟩ := List.getElem?_eq_some_iff.1 hy'
                have hne : y.1 ≠ y'.1 := fun e => hij ((List.getElem_inj hnd).1 (by rw [hyi, hyj]; exact Fin.ext e))
                exact HG4.out y.1 y'.1 ui uj hne hu' hu2 b hb
              · rw [List.getElem?_map] at hu
                obtain ⟨y, hy, hu⟩ := Option.map_eq_some_iff.1 hu
                have hyv : y.1 < vs.length := by have := y.2; omega
                have hu' : vs[y.1]? = some u := by rw [← hu, List.getD_eq_getElem?_getD, List.getElem?_eq_getElem hyv]; rfl
                exact Nat.lt_of_lt_of_le (Kd.N_lt (HG3.out y.1 u _ hu' (List.getElem?_eq_getElem y.2)) b hb) HBw.out.size
end Go.Proofs.YtoncpeadbhgmaaaGreatDoor.G

set_option linter.unusedVariables false
set_option linter.unusedSimpArgs false
namespace Go.Proofs.YtoncpeadbhgmaaaGreatDoor.G
open Go.RowKit Go.Sort Go.Shelf Go.Proofs.YtoncpeadbhgmaaaGreatDoorW.PrintWords Go.Proofs.YtoncpeadbhgmaaaGreatDoorW.PrintLast Go.Proofs.YtoncpeadbhgmaaaGreatDoorW.PrintMore

def isNaNb (b : Nat) : Bool := FloatKind.f64.format.order b b != some Ordering.eq
def toldB (b : Nat) : Nat := if isNaNb b then 9221120237041090561 else b
theorem isNaN_calls (b : Nat) (w : World) : Calls Tryz.prog 141 #[.float .f64 b] w fun e w' => e = .returned (.bool (isNaNb b)) ∧ w' = w := by
  go_enter Tryz.func141, Tryz.ntmps141
  go_wp2
  go_ret
  exact ⟨rfl, rfl⟩
theorem told_calls (b : Nat) (w : World) : Calls Tryz.prog 84 #[.float .f64 b] w fun e w' => e = .returned (.float .f64 (toldB b)) ∧ w' = w := by
  have c := isNaN_calls b
  cases h : isNaNb b with
  | true =>
    rw [h] at c
    have e : toldB b = 9221120237041090561 := by simp [toldB, h]
    rw [e]
    clear h e
    go_enter Tryz.func84, Tryz.ntmps84
    go_wp2_with fail
    refine (c _).mono ?_
    rintro e w' ⟨rfl, rfl⟩
    go_wp2
    go_ret
    exact ⟨rfl, rfl⟩
  | false =>
    rw [h] at c
    have e : toldB b = b := by simp [toldB, h]
    rw [e]
    clear h e
    go_enter Tryz.func84, Tryz.ntmps84
    go_wp2_with fail
    refine (c _).mono ?_
    rintro e w' ⟨rfl, rfl⟩
    go_wp2
    go_ret
    exact ⟨rfl, rfl⟩

/-- A sum that is exact at each step (no NaN). -/
def sumO : List Nat → Option Nat
  | [] => none
  | x :: l => l.foldlM (fun s y => FloatKind.f64.format.add s y) x
set_option maxHeartbeats 4000000 in
set_option maxRecDepth 100000 in
theorem sum_calls (A : Option Addr) (c : Nat) (l : List Nat) (p r : Nat) (w : World) (hr : Kd.f64.C w A l.length l) (hc : l.length ≤ c) (h : sumO l = some r) :
    Calls Tryz.prog 131 #[.slice A l.length c, .float .f64 p] w fun e w' => e = .returned (.float .f64 r) ∧ w' = w := by
  cases l with
  | nil => simp [sumO] at h
  | cons x l =>
    obtain ⟨ad, cs, rfl, hcl, hcK, hcc⟩ := Kd.C_get hr (0 : Nat) (0 : Int) (by omega) (by simp)
    have hcs : cs = [.float .f64 x] := by simpa [Kd.f64, Kd.scalar] using hcK
    subst hcs
    have x0 := hcc 0 _ rfl
    have ea : ad.add ((0 : Int).toNat * Kd.f64.sz + 0) = ad := by simp [Addr.add]
    rw [ea] at x0
    clear ea
    have HR := hid hr
    have HF := hid h
    have hm := Kd.C_max hr
    have hcd := Kd.C_drop (m := 1) hr (by simp) hc
    simp only [List.length_cons] at hc hm
    have hloop : ∀ {a : Option Addr} (hC : Kd.f64.C w a l.length l), True := fun _ => trivial
    by_cases h1 : c = 1
    · have hl : l = [] := List.eq_nil_of_length_eq_zero (by omega)
      subst hl
      obtain rfl : x = r := by simpa [sumO] using h
      subst h1
      clear hr h hcl hcK hcc hcd hloop HR HF
      go_enter Tryz.func131, Tryz.ntmps131
      go_wp2_with fail
      refine wp_loop_rounds 1 ?_
      rw [rounds_succ]
      go_wp2
      go_ret
      exact ⟨rfl, rfl⟩
    · rw [if_neg h1] at hcd
      have ea : (Option.map (fun x => x.add (1 * Kd.f64.sz)) (some ad)) = some ({ block := ad.block, off := ad.off + 1 } : Addr) := by simp [Addr.add, Kd.f64, Kd.scalar]
      rw [ea] at hcd
      have HR1 := hid (show Kd.f64.C w (some ({ block := ad.block, off := ad.off + 1 } : Addr)) l.length l from by simpa using hcd)
      have HF1 : Hid ((l.drop 0).foldlM (fun s y => FloatKind.f64.format.add s y) x = some r) := hid (by simpa [sumO] using h)
      clear hr h hcl hcK hcc hcd hloop HR HF ea
      go_enter Tryz.func131, Tryz.ntmps131
      go_wp2_with fail
      generalize ({ block := ad.block, off := ad.off + 1 } : Addr) = ad1 at HR1 ⊢
      go_loopw [5, 14] (fun v5 i wr => ∃ (j s : Nat), j ≤ l.length ∧ i = .int .i64 j ∧ v5 = .float .f64 s ∧ wr = w ∧ Hid ((l.drop j).foldlM (fun s y => FloatKind.f64.format.add s y) s = some r)) (fun _ i _ => l.length - (intOf i).toNat)
      case atStart => exact ⟨0, x, Nat.zero_le _, rfl, rfl, rfl, HF1⟩
      case round =>
        obtain ⟨j, s, hj, rfl, rfl, rfl, HS⟩ := hrel
        by_cases hlt : j < l.length
        · obtain ⟨ad2, cs, e2, hcl, hcK, hcc⟩ := Kd.C_get HR1.out (0 : Nat) (j : Int) (by omega) (by omega)
          injection e2 with e2
          subst e2
          have hcs : cs = [.float .f64 l[j]] := by
            have h : cs = [.float .f64 (l.getD (j : Int).toNat 0)] := hcK
            rw [h]; simp [List.getD_eq_getElem?_getD, hlt]
          subst hcs
          have y0 := hcc 0 _ rfl
          have ea : ad1.add ((j : Int).toNat * Kd.f64.sz + 0) = ad1.add j := by simp [Kd.f64, Kd.scalar]
          rw [ea] at y0
          have hst := HS.out
          rw [List.drop_eq_getElem_cons hlt, List.foldlM_cons] at hst
          obtain ⟨s', hs', hst'⟩ := Option.bind_eq_some_iff.mp hst
          have hadd := fun (W : World) => run_float_arith (P := Tryz.prog) W .add 34 .f64 s l[j] s' hs'
          generalize l[j] = y at y0 hadd
          have HS' := hid hst'
          clear hcl hcK hcc ea hst hst' hs' HS
          go_wp2
          go_roundw
          case rel => exact ⟨j + 1, s', by omega, by go_num, rfl, (by first | trivial | rfl), HS'⟩
          case measure => simp [intOf]; omega
        · obtain rfl : j = l.length := by omega
          obtain rfl : s = r := by have := HS.out; simpa using this
          go_wp2
          go_ret
          exact ⟨rfl, rfl⟩

/-- A mean that is exact at each step. -/
def avgO (l : List Nat) : Option Nat := (sumO l).bind fun s => FloatKind.f64.format.div s (floatOfInt .f64 l.length)
set_option maxHeartbeats 4000000 in
set_option maxRecDepth 100000 in
theorem avg_calls (A : Option Addr) (c : Nat) (l : List Nat) (p r : Nat) (w : World) (hr : Kd.f64.C w A l.length l) (hc : l.length ≤ c) (h : avgO l = some r) :
    Calls Tryz.prog 132 #[.slice A l.length c, .float .f64 p] w fun e w' => e = .returned (.float .f64 r) ∧ w' = w := by
  obtain ⟨s, hs, hd⟩ := Option.bind_eq_some_iff.mp h
  have cs := sum_calls A c l p s w hr hc hs
  have hq := fun (W : World) => run_float_arith (P := Tryz.prog) W .quo 34 .f64 s _ r hd
  clear hr h hs hd
  go_enter Tryz.func132, Tryz.ntmps132
  go_wp2_with fail
  refine cs.mono ?_
  rintro e w' ⟨rfl, rfl⟩
  go_wp2
  go_ret
  exact ⟨rfl, rfl⟩
def sumS : ByteArray := ⟨#[115, 117, 109]⟩
def avgS : ByteArray := ⟨#[97, 118, 103]⟩
theorem fold_sum (w : World) : Calls Tryz.prog 80 #[.string sumS] w fun e w' => e = .returned (.func (.func 131) #[] #[]) ∧ w' = w := by
  unfold sumS
  go_enter Tryz.func80, Tryz.ntmps80
  go_wp2
  go_ret
  exact ⟨rfl, rfl⟩
theorem fold_avg (w : World) : Calls Tryz.prog 80 #[.string avgS] w fun e w' => e = .returned (.func (.func 132) #[] #[]) ∧ w' = w := by
  unfold avgS
  go_enter Tryz.func80, Tryz.ntmps80
  go_wp2
  go_ret
  exact ⟨rfl, rfl⟩
set_option maxHeartbeats 4000000 in
set_option maxRecDepth 100000 in
theorem Fold_avg (A : Option Addr) (c : Nat) (l : List Nat) (p r : Nat) (w : World) (hr : Kd.f64.C w A l.length l) (hc : l.length ≤ c) (hl : 0 < l.length) (h : avgO l = some r) :
    Calls Tryz.prog 31 #[.string avgS, .slice A l.length c, .float .f64 p] w fun e w' => e = .returned (.tuple #[.float .f64 (toldB r), .int .i64 0]) ∧ w' = w := by
  have c1 := fold_avg w
  have c2 := avg_calls A c l p r w hr hc h
  have c3 := told_calls r w
  have he132 : ∀ args w, (callFunc 132 args).run Tryz.prog w = .ok (.enter 132 args) w := enters_of Tryz.func132 (by kernel_rfl) rfl
  have hnf : ∀ W : World, (binOp .eql 101 (.func (.func 132) #[] #[]) .nilFunc).run Tryz.prog W = .ok (.bool false) W := fun W => by kernel_rfl
  have hne : ((l.length : Int) == 0) = false := by
    have : (l.length : Int) ≠ 0 := by omega
    simpa using this
  generalize toldB r = t at c3 ⊢
  clear hr h
  go_enter Tryz.func31, Tryz.ntmps31
  go_wp2_with fail
  refine c1.mono ?_
  rintro e w' ⟨rfl, rfl⟩
  go_wp2_with fail
  refine c2.mono ?_
  rintro e w' ⟨rfl, rfl⟩
  go_wp2_with fail
  refine c3.mono ?_
  rintro e w' ⟨rfl, rfl⟩
  go_wp2
  go_ret2
  exact ⟨rfl, rfl⟩
end Go.Proofs.YtoncpeadbhgmaaaGreatDoor.G

set_option linter.unusedVariables false
set_option linter.unusedSimpArgs false
namespace Go.Proofs.YtoncpeadbhgmaaaGreatDoor.G
open Go.RowKit Go.Sort Go.Shelf Go.Proofs.YtoncpeadbhgmaaaGreatDoorW.PrintWords Go.Proofs.YtoncpeadbhgmaaaGreatDoorW.PrintLast Go.Proofs.YtoncpeadbhgmaaaGreatDoorW.PrintMore

/-- One point a group: its labels, the told sum of its values. -/
def numPts (k : Nat) (names : List ByteArray) (wo : Bool) : List (List S41) → Option (List S41)
  | [] => some []
  | [] :: _ => none
  | (p :: g) :: gs => if (p :: g).length < 1048576 then (aggr_group.f k p.f0 names wo).bind fun lab => (sumO ((p :: g).map (·.f1))).bind fun s => (numPts k names wo gs).bind fun r => some (⟨lab, toldB s⟩ :: r) else none
theorem numPts_step {k : Nat} {names : List ByteArray} {wo : Bool} {gs : List (List S41)} {j : Nat} {r : List S41} (hj : j < gs.length) (h : numPts k names wo (gs.drop j) = some r) :
    ∃ lab s r', 0 < gs[j].length ∧ gs[j].length < 1048576 ∧ aggr_group.f k (rd_T41 gs[j] 0).f0 names wo = some lab ∧ sumO (gs[j].map (·.f1)) = some s ∧ numPts k names wo (gs.drop (j + 1)) = some r' ∧ r = ⟨lab, toldB s⟩ :: r' := by
  rw [List.drop_eq_getElem_cons hj] at h
  cases hg : gs[j] with
  | nil => rw [hg] at h; simp [numPts] at h
  | cons p g =>
    rw [hg] at h
    simp only [numPts] at h
    split at h
    · rename_i hl
      obtain ⟨lab, h1, h⟩ := Option.bind_eq_some_iff.mp h
      obtain ⟨s, h2, h⟩ := Option.bind_eq_some_iff.mp h
      obtain ⟨r', h3, h⟩ := Option.bind_eq_some_iff.mp h
      exact ⟨lab, s, r', by simp, hl, h1, h2, h3, (Option.some.inj h).symm⟩
    · cases h

/-- An element of a row of rows of points: its cell, and what it reads. -/
theorem rows_at {B lim : Nat} {w : World} {v : Value} {gs : List (List S41)} (h : Rows B lim w v gs) : ∃ A c, v = .slice A gs.length c ∧ gs.length ≤ 9223372036854775807 ∧ ∀ i (hi : i < gs.length), ∃ gb Ai ci, A = some ⟨gb, 0, none⟩ ∧ w.cell? ⟨gb, i, none⟩ = some (.slice Ai gs[i].length ci) ∧ gs[i].length ≤ ci ∧ Kd.C k41 w Ai gs[i].length gs[i] := by
  obtain ⟨vs, h1, h2, h3, h4, h5⟩ := h.ex
  obtain ⟨A, c, rfl⟩ := Kd.R_slice h2
  obtain ⟨-, -, hC⟩ := Kd.R_reads' h2
  refine ⟨A, c, by rw [h1], by rw [← h1]; exact Kd.C_max hC, fun i hi => ?_⟩
  obtain ⟨ad, cs, rfl, hl, hK, hc⟩ := Kd.C_get hC ((none, 0, 0) : SL) (i : Int) (by omega) (by omega)
  obtain ⟨gb, rfl⟩ := Kd.R_head h2
  have hcs : cs = [sv (vs.getD (i : Int).toNat (none, 0, 0))] := hK
  have hiv : i < vs.length := by omega
  have hu : vs.getD (i : Int).toNat (none, 0, 0) = vs[i] := by simp [List.getD_eq_getElem?_getD, hiv]
  rw [hu] at hcs
  subst hcs
  have hc0 := hc 0 _ rfl
  have hN := h3 i vs[i] gs[i] (List.getElem?_eq_getElem hiv) (List.getElem?_eq_getElem hi)
  generalize vs[i] = uu at hN hc0
  obtain ⟨A', n', c'⟩ := uu
  obtain ⟨hn, hnc, hCi⟩ := Kd.N_reads' hN
  have hn' : n' = gs[i].length := hn
  subst hn'
  refine ⟨gb, A', c', rfl, ?_, hnc, hCi⟩
  rw [← show World.cell? w _ = some (Value.slice A' gs[i].length c') from hc0]
  congr 1
  simp [Addr.add, slK, Kd.scalar]

set_option maxHeartbeats 8000000 in
set_option maxRecDepth 1000000 in
theorem number_sum (k : Nat) (A0 : Option Addr) (c0 : Nat) (l0 : List S41) (A1 : Option Addr) (c1 : Nat) (l1 : List ByteArray) (a2 : Bool) (q : Nat) (all : List S41) (fin : GSt) (res : List S41) (wds : List ByteArray) (w : World)
    (hr0 : Kd.C k41 w A0 l0.length l0) (hc0 : l0.length ≤ c0) (hr1 : Kd.C Kd.string w A1 l1.length l1) (hc1 : l1.length ≤ c1) (hT : Tabs w)
    (hwd : aggr_Words.f = some wds) (hct : slices_Contains_string_string.f k wds sumS = some true)
    (hv : vec_Vector.f k l0 = some (all, 0)) (hw : aggr_wrong.f k l1 = some 0) (hf : gfold k l1 a2 all ⟨[], [], []⟩ = some fin) (hfl : fin.outs.length < 1048576)
    (hN : ∀ ys : List (Fin fin.outs.length), ys.Perm (List.finRange fin.outs.length) → (ys.Pairwise fun a b => ¬ cmpLs (fin.keys.getD b.1 []) (fin.keys.getD a.1 []) < 0) → ∃ pts, numPts k l1 a2 (ys.map fun i => fin.outs[i]) = some pts ∧ vec_Vector.f k pts = some (res, 0)) :
    Calls Tryz.prog 29 #[.string sumS, .slice A0 l0.length c0, .slice A1 l1.length c1, .bool a2, .float .f64 q] w fun e w' => ∃ v : Value, e = .returned (.tuple #[v, .int .i64 0]) ∧ k41.R 41 w' w.heap.size (fun _ => True) v res ∧ Below w.heap.size w w' := by
  have HT := hid hT
  have HR0 := hid hr0
  have HR1 := hid hr1
  have HC0 := hid hc0
  have HC1 := hid hc1
  have HV := hid hv
  have HW := hid hw
  have HF := hid hf
  have HFl := hid hfl
  have HN := hid hN
  have HCt := hid hct
  have cw := aggr_Words.calls wds w hwd
  clear hr0 hc0 hr1 hc1 hv hw hf hT hfl hN hct hwd
  go_enter Tryz.func29, Tryz.ntmps29
  go_wp2_with fail
  refine cw.mono ?_
  rintro e w1 ⟨vw, rfl, how, hb1⟩
  obtain ⟨Aw, cw', rfl, hlw, hrw⟩ := Kd.R_reads how
  have HB1 := hid hb1
  have HLw := hid hlw
  have HRw := hid hrw
  clear how hb1 hlw hrw cw
  go_wp2_with fail
  refine (slices_Contains_string_string.calls k Aw cw' wds sumS true w1 HRw.out HLw.out HCt.out).mono ?_
  rintro e w2 ⟨rfl, hd⟩
  obtain ⟨nd, rfl⟩ := hd.out
  have HB2 := hid (show Below w.heap.size w (w1.drewN nd) from pw_below_drewN HB1.out nd)
  clear hd HB1 HRw HLw
  generalize w1.drewN nd = w2 at HB2 ⊢
  go_wp2_with fail
  refine (groups_walk k A0 c0 l0 A1 c1 l1 a2 all fin w2 (Kd.C_below HR0.out HB2.out) HC0.out (Kd.C_below HR1.out HB2.out) HC1.out (tabs_below HT.out HB2.out) HV.out HW.out HF.out HFl.out).mono ?_
  rintro e w3 ⟨vg, rfl, hdone⟩
  obtain ⟨B, ys, hp, hs, hB, hrows, hb3⟩ := hdone
  obtain ⟨pts, hpts, hvec⟩ := HN.out ys hp (hs.imp (fun h => by omega))
  have HP := hid hpts
  have HVc := hid hvec
  have HB3 := hid (below_step HB2.out hb3)
  clear hs hpts hvec hb3
  have hgs : (ys.map fun i => fin.outs[i]).length < 1048576 := by
    have := HFl.out
    have h2 := hp.length_eq
    simp at h2 ⊢
    omega
  clear hp
  generalize (ys.map fun i => fin.outs[i]) = gs at hrows HP hgs
  obtain ⟨Ag, cg, rfl, hgl, hat⟩ := rows_at hrows
  have HAt := hid hat
  clear hrows hat
  go_wp2_with fail
  refine (fold_sum w3).mono ?_
  rintro e w4 ⟨rfl, rfl⟩
  go_wp2_with fail
  have HR3 := hid (Kd.C_below HR1.out HB3.out)
  have HT3 := hid (tabs_below HT.out HB3.out)
  have HGs := hid hgs
  have he131 : ∀ args w, (callFunc 131 args).run Tryz.prog w = .ok (.enter 131 args) w := enters_of Tryz.func131 (by kernel_rfl) rfl
  have hnf : ∀ W : World, (binOp .eql 101 (.func (.func 131) #[] #[]) .nilFunc).run Tryz.prog W = .ok (.bool false) W := fun W => by kernel_rfl
  clear hgs
  go_loopw [15, 39] (fun v15 i wr => ∃ (j : Nat) (out : List S41), j ≤ gs.length ∧ i = .int .i64 j ∧ Hid (out.length = j) ∧ Hid (Below w4.heap.size w4 wr) ∧ Hid (k41.R 41 wr w4.heap.size (fun _ => True) v15 out) ∧ Hid (∃ r, numPts k l1 a2 (gs.drop j) = some r ∧ out ++ r = pts)) (fun _ i _ => gs.length - (intOf i).toNat)
  case atStart => exact ⟨0, [], Nat.zero_le _, rfl, rfl, Below.refl _ _, Kd.R_nil _ _ _ _ _, pts, HP.out, rfl⟩
  case round =>
    obtain ⟨j, out, hj, rfl, HOl, HBw, HRo, HPj⟩ := hrel
    by_cases hlt : j < gs.length
    · obtain ⟨r, hr, hpr⟩ := HPj.out
      obtain ⟨lab, s, r', hg0, hgl1, hlab, hsum, hr', rfl⟩ := numPts_step hlt hr
      obtain ⟨gb, Ai, ci, rfl, x0, hli, hci⟩ := HAt.out j hlt
      replace x0 := (HBw.out.cell (World.block_lt_of_cell? w4 _ x0)).trans x0
      have HCi := hid (Kd.C_below hci HBw.out)
      have HLi := hid hli
      have HLab := hid hlab
      have HSum := hid hsum
      have HP' := hid (show ∃ r, numPts k l1 a2 (gs.drop (j + 1)) = some r ∧ (out ++ [(⟨lab, toldB s⟩ : S41)]) ++ r = pts from ⟨r', hr', by rw [← hpr]; simp⟩)
      have HG0 := hid hg0
      have HG1 := hid hgl1
      have HLt := hid hlt
      clear hr hpr hlab hsum hr' hci hli hg0 hgl1 HPj
      generalize gs[j] = g at x0 HCi HLi HLab HSum HG0 HG1
      have hmg : g.length ≤ 9223372036854775807 := Kd.C_max HCi.out
      go_wp2_with fail
      rename World => wi
      go_loopw [18, 60] (fun v18 i2 wr2 => ∃ (m : Nat), m ≤ g.length ∧ i2 = .int .i64 m ∧ Hid (Below wi.heap.size wi wr2) ∧ Hid (Kd.f64.R 34 wr2 wi.heap.size (fun _ => True) v18 ((g.take m).map (·.f1)))) (fun _ i2 _ => g.length - (intOf i2).toNat)
      case atStart => exact ⟨0, Nat.zero_le _, rfl, Below.refl _ _, Kd.R_nil _ _ _ _ _⟩
      case round =>
        obtain ⟨m, hm, rfl, HBi, HRv⟩ := hrel
        by_cases hlt2 : m < g.length
        · obtain ⟨ad2, Ap, cp, e2, y0, y1, hlp, hcp⟩ := at_T41 HCi.out m (by omega) (by omega)
          subst e2
          clear hlp hcp
          replace y0 := (HBi.out.cell (World.block_lt_of_cell? wi _ y0)).trans y0
          replace y1 := (HBi.out.cell (World.block_lt_of_cell? wi _ y1)).trans y1
          simp only [Int.toNat_natCast] at y0 y1
          have HLt2 := hid hlt2
          have htk : (g.take (m + 1)).map (·.f1) = (g.take m).map (·.f1) ++ [(rd_T41 g m).f1] := by
            rw [show g.take (m + 1) = g.take m ++ [g[m]] from by rw [List.take_add_one, List.getElem?_eq_getElem hlt2]; rfl, List.map_append]
            simp [rd_T41, List.getD_eq_getElem?_getD, hlt2]
            rfl
          have HTk := hid htk
          clear htk
          generalize rd_T41 g m = pm at y0 y1 HTk
          have HRa := hid (Kd.R_alloc HRv.out (Obj.cells #[Value.slice Ap pm.f0.length cp, Value.float FloatKind.f64 pm.f1] 41))
          have HBa := hid (below_alloc HBi.out (Obj.cells #[Value.slice Ap pm.f0.length cp, Value.float FloatKind.f64 pm.f1] 41))
          go_wp2_with (first
            | ((with_reducible refine gate_builtin (b := .append) (xs := #[.tmp 64, .tmp 67]) rfl ?_); at_builtin
               refine Kd.R_append Kd.f64 (w0 := wi) wi.heap.size rfl (.tmp 64) (.tmp 67) 105 34 (.float .f64 0) 8 rfl Tryz.underlying105 info34 rfl (by decide) (by omega) _ _ pm.f1 [.float .f64 pm.f1] (fun _ => True) (fun _ => False) rfl (by first | rfl | (go_simp; done) | (go_simp; rfl)) rfl (fun _ h => h.elim) (fun _ _ => trivial) HRa.out HBa.out HBa.out.size ?aL ?_
               (case aL => simp; have := HG1.out; omega)
               intro v8 w8 hr8 hb8 hg8 hat8
               rw [← HTk.out] at hr8
               have HR8 := hid hr8
               have HB8 := hid hb8
               clear hr8 hb8 hg8 hat8 HRa HBa))
          go_roundw
          case rel => exact ⟨m + 1, by have := HLt2.out; omega, by go_num, HB8, HR8⟩
          case measure => have := HLt2.out; simp [intOf]; omega
        · obtain rfl : m = g.length := by omega
          have hv18 := HRv.out
          rw [List.take_length] at hv18
          obtain ⟨Av, cv, ev, hlv, hcv⟩ := Kd.R_reads hv18
          have ev' : u18 = .slice Av g.length cv := by rw [ev]; simp
          subst ev'
          clear ev
          have HVl := hid hlv
          have HVr := hid hcv
          obtain ⟨ad2, Ap, cp, e2, y0, y1, hlp, hcp⟩ := at_T41 HCi.out (0 : Int) (by omega) (by have := HG0.out; omega)
          subst e2
          replace y0 := (HBi.out.cell (World.block_lt_of_cell? wi _ y0)).trans y0
          replace y1 := (HBi.out.cell (World.block_lt_of_cell? wi _ y1)).trans y1
          have ez : ad2.add ((0 : Int).toNat * 2) = ad2 := by simp [Addr.add]
          rw [ez] at y0 y1
          have HLp := hid hlp
          have HCp := hid (Kd.C_below hcp HBi.out)
          have HBo := hid (HBw.out.trans (Below.mono HBi.out HBw.out.size))
          have hpos : (0 : Int) < (g.length : Int) := by have := HG0.out; omega
          clear hv18 hlv hcv hlp hcp ez HRv
          go_wp2_with fail
          refine (aggr_group.calls k Ap cp _ A1 c1 l1 a2 lab wr HCp.out HLp.out (Kd.C_below HR3.out HBo.out) HC1.out (tabs_below HT3.out HBo.out) HLab.out).mono ?_
          rintro e w5 ⟨vl, rfl, hol, hb5⟩
          obtain ⟨Al, cl, rfl, hll, hrl⟩ := Kd.R_reads hol
          have HOl' := hid hol
          have HB5 := hid hb5
          clear hol hb5 hll hrl
          go_wp2_with fail
          have hsm := sum_calls Av cv (g.map (·.f1)) q s w5 (Kd.C_below HVr.out HB5.out) HVl.out HSum.out
          rw [List.length_map] at hsm
          refine hsm.mono ?_
          rintro e w6 ⟨rfl, rfl⟩
          go_wp2_with fail
          refine (told_calls s w6).mono ?_
          rintro e w7 ⟨rfl, rfl⟩
          have HRo5 := hid (Kd.R_below (Kd.R_below HRo.out HBi.out) HB5.out)
          have HBo5 := hid (HBo.out.trans (Below.mono HB5.out HBo.out.size))
          generalize toldB s = tb at HP' ⊢
          clear hsm
          go_wp2_with (first
            | ((with_reducible refine gate_builtin (b := .append) (xs := #[.tmp 70, .tmp 84]) rfl ?_); at_builtin
               refine Hid.out ?_))
          refine hid ?_
          refine Kd.R_append k41 (w0 := w4) w4.heap.size rfl (.tmp 70) (.tmp 84) 22 41 (.agg #[(.slice none 0 0), (.float .f64 0)]) 32 rfl Tryz.underlying22 info41 rfl (by decide) (by omega) u15 out (⟨lab, tb⟩ : S41) [.slice Al lab.length cl, .float .f64 tb] (fun _ => True) (fun k_ => True ∧ some k_ ≠ u15.ownBlock) rfl (by first | rfl | (go_simp; done) | (go_simp; rfl)) ?aP (fun _ h => h) (fun _ _ => trivial) HRo5.out HBo5.out HBo5.out.size ?aL ?_
          (case aP => exact k41_mkM _ _ _ (⟨lab, tb⟩ : S41) (Kd.R_lower (Kd.R_apart' HOl'.out (Kd.R_typed HRo5.out) (by decide)) HBo.out.size))
          (case aL => have := HOl.out; have := HGs.out; have := HLt.out; omega)
          intro v9 w9 hr9 hb9 hg9 hat9
          have HR9 := hid hr9
          have HB9 := hid hb9
          have HO9 := hid (show (out ++ [(⟨lab, tb⟩ : S41)]).length = j + 1 from by have := HOl.out; simp [this])
          have hgm : gs.length ≤ 9223372036854775807 := by have := HGs.out; omega
          clear hr9 hb9 hg9 hat9 hpos
          go_wp2
          go_roundw
          case rel => exact ⟨j + 1, _, by have := HLt.out; omega, by go_num, HO9, HB9, HR9, HP'⟩
          case measure => have := HLt.out; simp [intOf]; omega
    · obtain rfl : j = gs.length := by omega
      have hout : out = pts := by
        obtain ⟨r, hr, hpr⟩ := HPj.out
        rw [List.drop_length] at hr
        obtain rfl : [] = r := Option.some.inj hr
        simpa using hpr
      subst hout
      obtain ⟨Ao, co, rfl, hlo, hro⟩ := Kd.R_reads HRo.out
      have HRr := hid hro
      have HLr := hid hlo
      have HBf := hid (below_step HB3.out HBw.out)
      clear hlo hro
      go_wp2_with fail
      refine (vec_Vector.calls k Ao co out res 0 wr HRr.out HLr.out (tabs_below HT.out HBf.out) HVc.out).mono ?_
      rintro e w9 ⟨v9, rfl, hr9, hb9⟩
      have HR9 := hid (Kd.R_lower hr9 HBf.out.size)
      have HB9 := hid (below_step HBf.out hb9)
      clear hr9 hb9
      go_wp2
      go_ret2
      exact ⟨v9, rfl, HR9.out, HB9.out⟩
end Go.Proofs.YtoncpeadbhgmaaaGreatDoor.G

set_option linter.unusedVariables false
set_option linter.unusedSimpArgs false
namespace Go.Proofs.YtoncpeadbhgmaaaGreatDoor.G
open Go.RowKit Go.Sort Go.Shelf Go.Proofs.YtoncpeadbhgmaaaGreatDoorW.PrintWords Go.Proofs.YtoncpeadbhgmaaaGreatDoorW.PrintLast Go.Proofs.YtoncpeadbhgmaaaGreatDoorW.PrintMore

theorem C_block {α : Type} (d : Kd α) {w : World} {g e : Nat} {cells : Array Value} {xs : List α} (hb : w.heap[g]? = some (.cells cells e (0, 0))) (hm : xs.length ≤ 9223372036854775807) (hr : Reps (d.K w) d.sz xs cells.toList) : d.C w (some ⟨g, 0, none⟩) xs.length xs := by
  refine ⟨rfl, hm, fun hp => ⟨_, rfl, fun j p hj => ⟨_, d.K_len (hr.2 j p hj), hr.2 j p hj, fun i u hu => ?_⟩⟩⟩
  rw [add_plain, blk_cell hb]
  have hi : i < d.sz := by
    have := (List.getElem?_eq_some_iff.1 hu).1
    simp at this; omega
  rw [List.getElem?_take, if_pos hi, List.getElem?_drop] at hu
  simpa using hu
theorem reps_two {α : Type} {R : α → List Value → Prop} {sz : Nat} {x y : α} {cs : List Value} (hl : cs.length = 2 * sz) (h0 : R x (cs.take sz)) (h1 : R y ((cs.drop sz).take sz)) : Reps R sz [x, y] cs := by
  refine ⟨by simpa using hl, fun j p hj => ?_⟩
  match j, hj with
  | 0, hj => simp at hj; subst hj; simpa using h0
  | 1, hj => simp at hj; subst hj; simpa using h1
theorem reps_one {α : Type} {R : α → List Value → Prop} {sz : Nat} {x : α} {cs : List Value} (hl : cs.length = sz) (h0 : R x cs) : Reps R sz [x] cs := by
  refine ⟨by simpa using hl, fun j p hj => ?_⟩
  match j, hj with
  | 0, hj => simp at hj; subst hj; simpa [← hl] using h0

def bA : ByteArray := ⟨#[97]⟩
def bB : ByteArray := ⟨#[98]⟩
def b1 : ByteArray := ⟨#[49]⟩
def bX : ByteArray := ⟨#[120]⟩
def bY : ByteArray := ⟨#[121]⟩
def aw1 : S41 := ⟨[⟨bA, b1⟩, ⟨bB, bX⟩], 4611686018427387904⟩
def aw2 : S41 := ⟨[⟨bA, b1⟩, ⟨bB, bY⟩], 4616189618054758400⟩
def awR : S41 := ⟨[⟨bA, b1⟩], 4618441417868443648⟩

def o1 : Obj := .cells #[.string bA, .string b1, .string bB, .string bX] 89
def o2 : Obj := .cells #[.string bA, .string b1, .string bB, .string bY] 89
def o3 (n : Nat) : Obj := .cells #[.slice (some ⟨n, 0, none⟩) 2 2, .float .f64 4611686018427387904, .slice (some ⟨n + 1, 0, none⟩) 2 2, .float .f64 4616189618054758400] 41
def o4 : Obj := .cells #[.string bA] 9
def awW (w : World) : World := (((w.alloc o1).alloc o2).alloc (o3 w.heap.size)).alloc o4
theorem aw_below (w : World) : Below w.heap.size w (awW w) := below_alloc (below_alloc (below_alloc (below_alloc (Below.refl _ _) _) _) _) _
theorem aw_1 (w : World) : (awW w).heap[w.heap.size]? = some o1 := blk_alloc (blk_alloc (blk_alloc (blk_new w o1) _) _) _
theorem aw_2 (w : World) : (awW w).heap[w.heap.size + 1]? = some o2 := by
  have := blk_alloc (blk_alloc (blk_new (w.alloc o1) o2) (o3 w.heap.size)) o4
  simpa [awW] using this
theorem aw_3 (w : World) : (awW w).heap[w.heap.size + 1 + 1]? = some (o3 w.heap.size) := by
  have := blk_alloc (blk_new ((w.alloc o1).alloc o2) (o3 w.heap.size)) o4
  simpa [awW] using this
theorem aw_4 (w : World) : (awW w).heap[w.heap.size + 1 + 1 + 1]? = some o4 := by
  have := blk_new (((w.alloc o1).alloc o2).alloc (o3 w.heap.size)) o4
  simpa [awW] using this
theorem k89_of (w : World) (x : S89) : k89.K w x [.string x.f0, .string x.f1] := ⟨[.string x.f0], [.string x.f1], rfl, rfl, rfl⟩
theorem aw_C1 (w : World) : k89.C (awW w) (some ⟨w.heap.size, 0, none⟩) aw1.f0.length aw1.f0 := C_block k89 (aw_1 w) (by simp [aw1]) (reps_two rfl (k89_of _ ⟨bA, b1⟩) (k89_of _ ⟨bB, bX⟩))
theorem aw_C2 (w : World) : k89.C (awW w) (some ⟨w.heap.size + 1, 0, none⟩) aw2.f0.length aw2.f0 := C_block k89 (aw_2 w) (by simp [aw2]) (reps_two rfl (k89_of _ ⟨bA, b1⟩) (k89_of _ ⟨bB, bY⟩))
theorem aw_C3 (w : World) : k41.C (awW w) (some ⟨w.heap.size + 1 + 1, 0, none⟩) [aw1, aw2].length [aw1, aw2] :=
  C_block k41 (aw_3 w) (by simp) (reps_two rfl (k41_mk _ aw1 (c0 := 2) (by simp [aw1]) (aw_C1 w)) (k41_mk _ aw2 (c0 := 2) (by simp [aw2]) (aw_C2 w)))
theorem aw_C4 (w : World) : Kd.string.C (awW w) (some ⟨w.heap.size + 1 + 1 + 1, 0, none⟩) [bA].length [bA] := C_block Kd.string (aw_4 w) (by simp) (reps_one rfl rfl)
theorem fl_C (w : World) : Kd.f64.C (w.alloc (.cells #[.float .f64 4611686018427387904, .float .f64 4616189618054758400] 34)) (some ⟨w.heap.size, 0, none⟩) [4611686018427387904, 4616189618054758400].length [4611686018427387904, 4616189618054758400] :=
  C_block Kd.f64 (blk_new _ _) (by simp) (reps_two rfl rfl rfl)
theorem avg_24 : avgO [4611686018427387904, 4616189618054758400] = some 4613937818241073152 := by kernel_rfl
theorem told_3 : toldB 4613937818241073152 = 4613937818241073152 := by kernel_rfl
theorem eq_3 : (FloatKind.f64.format.order 4613937818241073152 4613937818241073152 == some Ordering.eq) = true := by kernel_rfl
theorem eq_6 : (FloatKind.f64.format.order 4618441417868443648 4618441417868443648 == some Ordering.eq) = true := by kernel_rfl

set_option maxHeartbeats 4000000 in
set_option maxRecDepth 1000000 in
theorem awake_walk (k : Nat) (fin : GSt) (wds : List ByteArray) (w : World) (hT : Tabs w)
    (hwd : aggr_Words.f = some wds) (hct : slices_Contains_string_string.f k wds sumS = some true)
    (hv : vec_Vector.f k [aw1, aw2] = some ([aw1, aw2], 0)) (hw : aggr_wrong.f k [bA] = some 0) (hf : gfold k [bA] false [aw1, aw2] ⟨[], [], []⟩ = some fin) (hfl : fin.outs.length < 1048576)
    (hN : ∀ ys : List (Fin fin.outs.length), ys.Perm (List.finRange fin.outs.length) → (ys.Pairwise fun a b => ¬ cmpLs (fin.keys.getD b.1 []) (fin.keys.getD a.1 []) < 0) → ∃ pts, numPts k [bA] false (ys.map fun i => fin.outs[i]) = some pts ∧ vec_Vector.f k pts = some ([awR], 0)) :
    Calls Tryz.prog 30 #[] w fun e w' => e = .returned (.bool true) ∧ Below w.heap.size w w' := by
  have HT := hid hT
  have HV := hid hv
  have HW := hid hw
  have HF := hid hf
  have HFl := hid hfl
  have HN := hid hN
  have HCt := hid hct
  have HWd := hid hwd
  clear hT hv hw hf hfl hN hct hwd
  go_enter Tryz.func30, Tryz.ntmps30
  go_wp2_with fail
  have cn := number_sum k (some ⟨w.heap.size + 1 + 1, 0, none⟩) 2 [aw1, aw2] (some ⟨w.heap.size + 1 + 1 + 1, 0, none⟩) 1 [bA] false 0 [aw1, aw2] fin [awR] wds (awW w) (aw_C3 w) (by simp) (aw_C4 w) (by simp) (tabs_below HT.out (aw_below w)) HWd.out HCt.out HV.out HW.out HF.out HFl.out (fun ys hp hs => HN.out ys hp (hs.imp (fun h => by omega)))
  refine Calls.mono (show Calls Tryz.prog 29 _ _ _ from cn) ?_
  rintro e w5 ⟨v, rfl, hR, hB⟩
  obtain ⟨Av, cv, rfl, hlv, hCv⟩ := Kd.R_reads hR
  have HB5 := hid (below_step (aw_below w) hB)
  obtain ⟨ad, Ap, cp, e2, x0, x1, hlp, hcp⟩ := at_T41 hCv (0 : Int) (by omega) (by simp)
  subst e2
  have ez : ad.add ((0 : Int).toNat * 2) = ad := by simp [Addr.add]
  rw [ez] at x0 x1
  have x0' : w5.cell? ad = some (.slice Ap 1 cp) := x0
  have x1' : w5.cell? ⟨ad.block, ad.off + 1, none⟩ = some (.float .f64 4618441417868443648) := x1
  clear hR hB hlv hCv hlp hcp ez x0 x1 cn
  go_wp2_with fail
  have cf := Fold_avg (some ⟨w5.heap.size, 0, none⟩) 2 [4611686018427387904, 4616189618054758400] 0 4613937818241073152 (w5.alloc (.cells #[.float .f64 4611686018427387904, .float .f64 4616189618054758400] 34)) (fl_C w5) (by simp) (by simp) avg_24
  rw [told_3] at cf
  refine Calls.mono (show Calls Tryz.prog 31 _ _ _ from cf) ?_
  rintro e w6 ⟨rfl, rfl⟩
  have z0 := (World.cell?_alloc_lt w5 (.cells #[.float .f64 4611686018427387904, .float .f64 4616189618054758400] 34) _ (World.block_lt_of_cell? _ _ x0')).trans x0'
  have z1 := (World.cell?_alloc_lt w5 (.cells #[.float .f64 4611686018427387904, .float .f64 4616189618054758400] 34) _ (World.block_lt_of_cell? _ _ x1')).trans x1'
  have e3 := eq_3
  have e6 := eq_6
  have HB6 := hid (below_alloc HB5.out (.cells #[.float .f64 4611686018427387904, .float .f64 4616189618054758400] 34))
  clear cf x0' x1'
  go_wp2
  go_ret
  exact ⟨rfl, HB6.out⟩
end Go.Proofs.YtoncpeadbhgmaaaGreatDoor.G

set_option linter.unusedVariables false
set_option linter.unusedSimpArgs false
namespace Go.Proofs.YtoncpeadbhgmaaaGreatDoor.G
open Go.RowKit Go.Sort Go.Shelf Go.Proofs.YtoncpeadbhgmaaaGreatDoorW.PrintWords Go.Proofs.YtoncpeadbhgmaaaGreatDoorW.PrintLast Go.Proofs.YtoncpeadbhgmaaaGreatDoorW.PrintMore

def wdsL : List ByteArray := [(⟨#[97, 118, 103]⟩ : ByteArray), (⟨#[98, 111, 116, 116, 111, 109, 107]⟩ : ByteArray), (⟨#[99, 111, 117, 110, 116]⟩ : ByteArray), (⟨#[103, 114, 111, 117, 112]⟩ : ByteArray), (⟨#[109, 97, 120]⟩ : ByteArray), (⟨#[109, 105, 110]⟩ : ByteArray), (⟨#[113, 117, 97, 110, 116, 105, 108, 101]⟩ : ByteArray), (⟨#[115, 116, 100, 100, 101, 118]⟩ : ByteArray), (⟨#[115, 116, 100, 118, 97, 114]⟩ : ByteArray), (⟨#[115, 117, 109]⟩ : ByteArray), (⟨#[116, 111, 112, 107]⟩ : ByteArray)]
theorem aw_words : aggr_Words.f = some wdsL := rfl
set_option maxRecDepth 100000 in
theorem aw_has : slices_Contains_string_string.f 40 wdsL sumS = some true := by kernel_rfl
set_option maxRecDepth 100000 in
theorem aw_wrong : aggr_wrong.f 40 [bA] = some 0 := by kernel_rfl
set_option maxRecDepth 100000 in
theorem aw_l2 : vec_Vector.l2 34 [aw1, aw2] 1 = some ([aw1, aw2], 0) := by kernel_rfl
set_option maxRecDepth 100000 in
theorem aw_l2R : vec_Vector.l2 36 [awR] 1 = some ([awR], 0) := by kernel_rfl
theorem aw_cmp : cmpPt aw1 aw2 = -1 ∧ cmpPt aw2 aw1 = 1 := ⟨by kernel_rfl, by kernel_rfl⟩
set_option maxRecDepth 100000 in
theorem aw_vec0 : vec_Vector.f 40 [aw1, aw2] = sortAll cmpPt [aw1, aw2] (fun y8 => vec_Vector.l2 34 y8 1) := by kernel_rfl
set_option maxRecDepth 100000 in
theorem aw_vecR0 : vec_Vector.f 40 [awR] = sortAll cmpPt [awR] (fun y8 => vec_Vector.l2 36 y8 1) := by kernel_rfl
theorem aw_vec : vec_Vector.f 40 [aw1, aw2] = some ([aw1, aw2], 0) := by
  rw [aw_vec0]
  have hc := aw_cmp
  have hl := aw_l2
  generalize aw1 = a at hc hl ⊢
  generalize aw2 = b at hc hl ⊢
  refine sortAll_eq (by simp) ⟨[a, b], List.Perm.refl _, by simp [hc.2]⟩ (fun ys hp hs => ?_)
  have hlen := hp.length_eq
  match ys, hlen with
  | [x, y], _ =>
    have hx : x ∈ [a, b] := hp.subset (by simp)
    simp only [List.mem_cons, List.not_mem_nil, or_false] at hx
    rcases hx with rfl | rfl
    · have h2 := (List.perm_cons x).1 hp
      have h3 := List.perm_singleton.1 h2
      injection h3 with h3
      subst h3
      exact hl
    · have h2 := (List.perm_cons x).1 (hp.trans (List.Perm.swap x a []))
      have h3 := List.perm_singleton.1 h2
      injection h3 with h3
      subst h3
      exfalso
      have := hs
      simp [hc.1] at this
theorem aw_vecR : vec_Vector.f 40 [awR] = some ([awR], 0) := by
  rw [aw_vecR0]
  have hl := aw_l2R
  generalize awR = a at hl ⊢
  refine sortAll_eq (by simp) ⟨[a], List.Perm.refl _, by simp⟩ (fun ys hp hs => ?_)
  rw [List.perm_singleton.1 hp]
  exact hl
def awFin : GSt := ⟨[[⟨bA, b1⟩]], [[1, 1, 97, 1, 49]], [[aw1, aw2]]⟩
set_option maxRecDepth 100000 in
theorem aw_fold : gfold 40 [bA] false [aw1, aw2] ⟨[], [], []⟩ = some awFin := by kernel_rfl
set_option maxRecDepth 100000 in
theorem aw_pts : numPts 40 [bA] false [[aw1, aw2]] = some [awR] := by kernel_rfl
/-- awake of the laws of chapter 16 holds, whatever world it is called in. -/
theorem awake_calls (w : World) (hT : Tabs w) : Calls Tryz.prog 30 #[] w fun e w' => e = .returned (.bool true) ∧ Below w.heap.size w w' := by
  refine awake_walk 40 awFin wdsL w hT aw_words aw_has aw_vec aw_wrong aw_fold (by simp [awFin]) (fun ys hp hs => ⟨[awR], ?_, aw_vecR⟩)
  have hy : ys = [⟨0, by simp [awFin]⟩] := List.perm_singleton.1 (hp.trans (List.Perm.of_eq rfl))
  rw [hy]
  exact aw_pts
end Go.Proofs.YtoncpeadbhgmaaaGreatDoor.G

set_option linter.unusedVariables false
set_option linter.unusedSimpArgs false
namespace Go.Proofs.YtoncpeadbhgmaaaGreatDoor.G
open Go.RowKit Go.Sort Go.Proofs.YtoncpeadbhgmaaaGreatDoorW.PrintWords Go.Proofs.YtoncpeadbhgmaaaGreatDoorW.PrintLast Go.Proofs.YtoncpeadbhgmaaaGreatDoorW.PrintMore

theorem groupE_len (l : List S89) (names : List ByteArray) (wo : Bool) : (GroupE l names wo).1.length ≤ 16 := by
  unfold GroupE
  by_cases hr : (rightF l).1 = 0
  · have := right_short l hr
    rw [if_pos hr]
    split
    · unfold groupF pickF
      split <;> exact Nat.le_trans (List.length_filter_le _ _) this
    · simp
  · rw [if_neg hr]; simp
set_option maxHeartbeats 4000000 in
set_option maxRecDepth 100000 in
theorem aggrGroup_walk (A0 : Option Addr) (c0 : Nat) (l0 : List S89) (A1 : Option Addr) (c1 : Nat) (l1 : List ByteArray) (a2 : Bool) (w : World) (hr0 : Kd.C k89 w A0 l0.length l0) (hc0 : l0.length ≤ c0) (hr1 : Kd.C Kd.string w A1 l1.length l1) (hc1 : l1.length ≤ c1)
    (hT : Tabs w) (hw : WfL l0) (hwn : WfN l1) (hn : l1.length < 8796093022208) :
    Calls Tryz.prog 11 #[.slice A0 l0.length c0, .slice A1 l1.length c1, .bool a2] w fun e w' => e = .returned (.bool true) ∧ Below w.heap.size w w' := by
  obtain ⟨K1, h1⟩ := Group_f l0 l1 a2 hw hwn hn
  obtain ⟨K2, h2⟩ := rGroup_f l0 l1 a2 hw hwn hn
  have hlen := groupE_len l0 l1 a2
  obtain ⟨K3, h3⟩ := same_f (GroupE l0 l1 a2).1 (GroupE l0 l1 a2).1 (by omega) (by omega)
  have e1 := h1 (max K1 (max K2 K3)) (by omega)
  have e2 := h2 (max K1 (max K2 K3)) (by omega)
  have e3 := h3 (max K1 (max K2 K3)) (by omega)
  generalize max K1 (max K2 K3) = k at e1 e2 e3
  rw [cmpLs_lin.refl] at e3
  clear h1 h2 h3 hlen
  generalize hG : GroupE l0 l1 a2 = gr at e1 e2 e3
  obtain ⟨gl, ge⟩ := gr
  have c1' := aggr_Group.calls k A0 c0 l0 A1 c1 l1 a2 gl ge w hr0 hc0 hr1 hc1 hT e1
  have HT := hid hT
  have HR0 := hid hr0
  have HR1 := hid hr1
  have HC0 := hid hc0
  have HC1 := hid hc1
  have E2 := hid e2
  have E3 := hid e3
  clear hr0 hr1 hc0 hc1 hT e1 e2 e3 hG hw hwn hn
  go_enter Tryz.func11, Tryz.ntmps11
  go_wp2_with fail
  refine c1'.mono ?_
  rintro e w1 ⟨v1, rfl, ho1, hb1⟩
  obtain ⟨B1, d1, rfl, hl1, hC1⟩ := Kd.R_reads ho1
  have HB1 := hid hb1
  have HL1 := hid hl1
  have HD1 := hid hC1
  clear c1' ho1 hb1 hl1 hC1
  go_wp2_with fail
  refine (tocsinref16_Group.calls k A0 c0 l0 A1 c1 l1 a2 gl ge w1 (Kd.C_below HR0.out HB1.out) HC0.out (Kd.C_below HR1.out HB1.out) HC1.out E2.out).mono ?_
  rintro e w2 ⟨v2, rfl, ho2, hb2⟩
  obtain ⟨B2, d2, rfl, hl2, hC2⟩ := Kd.R_reads ho2
  have HB2 := hid (below_step HB1.out hb2)
  have HL2 := hid hl2
  have HD2 := hid hC2
  have HD1' := hid (Kd.C_below HD1.out hb2)
  clear ho2 hb2 hl2 hC2
  go_wp2_with fail
  refine (tocsinref04_Same.calls k B1 d1 gl B2 d2 gl _ w2 HD1'.out HL1.out HD2.out HL2.out E3.out).mono ?_
  rintro e w3 ⟨rfl, hd⟩
  obtain ⟨nd, rfl⟩ := hd.out
  have HB3 := hid (pw_below_drewN HB2.out nd)
  clear hd
  generalize w2.drewN nd = w3 at HB3 ⊢
  go_wp2_with fail
  refine (awake_calls w3 (tabs_below HT.out HB3.out)).mono ?_
  rintro e w4 ⟨rfl, hb4⟩
  have HB4 := hid (below_step HB3.out hb4)
  clear hb4
  go_wp2
  go_ret
  exact ⟨rfl, HB4.out⟩
end Go.Proofs.YtoncpeadbhgmaaaGreatDoor.G

set_option linter.unusedVariables false
set_option linter.unusedSimpArgs false
namespace Go.Proofs.YtoncpeadbhgmaaaGreatDoor.G
open Go.ChangeShapes Go.WideShapes Go.ChangeAt Go.RowKit Go.Proofs.YtoncpeadbhgmaaaGreatDoorW.PrintWords

/-- No part of the datum weighs more than the form's reach. -/
def Light {H : Type} (t : TypeId) (d : DataW H) : Prop := ∀ n, n ∈ d.weights Tryz.prog t → n ≤ 140737488351232
theorem weightsAll_mem {H : Type} {P : Program} {e : TypeId} {d : DataW H} {n : Nat} : ∀ {l : List (DataW H)}, d ∈ l → n ∈ d.weights P e → n ∈ DataW.weightsAll P e l
  | [], h, _ => by cases h
  | x :: l, h, hn => by
    simp only [DataW.weightsAll, List.mem_append]
    rcases List.mem_cons.1 h with rfl | h
    · exact .inl hn
    · exact .inr (weightsAll_mem h hn)
section
variable {H : Type} {enc : TypeId × Value → H} {w : World}
theorem c9 : Tryz.prog.cellsOf 9 = 1 := by kernel_rfl
theorem c89 : Tryz.prog.cellsOf 89 = 2 := by kernel_rfl
theorem by9 : Tryz.prog.bytesOf 9 = 16 := by kernel_rfl
theorem by89 : Tryz.prog.bytesOf 89 = 32 := by kernel_rfl

/-- A row of strings. -/
theorem rd_strings {fuel : Nat} {A : Option Addr} {len cap : Nat} {d : DataW H} {ps : List MemPlace} (h : DataW.trod enc Tryz.prog w 0 (fun _ => true) true fuel 23 [.slice A len cap] = some (d, ps)) :
    ∃ xs : List ByteArray, xs.length = len ∧ len ≤ cap ∧ Kd.string.C w A len xs ∧ (Light 23 d → len * 16 ≤ 140737488351232 ∧ ∀ x ∈ xs, x.size ≤ 140737488351232) := by
  rcases open_strings Tryz.underlying23 Tryz.underlying9 c9 h with ⟨hcs, _⟩ | ⟨a, l, c, ss, hcs, _, hl, hm, hlen, hx, hcell, _⟩
  · injection hcs with hcs _
    injection hcs with h1 h2 h3
    subst h1; subst h2; subst h3
    exact ⟨[], rfl, Nat.le_refl _, Kd.C_nil _ _, fun _ => ⟨by simp, by simp⟩⟩
  · injection hcs with hcs _
    injection hcs with h1 h2 h3
    subst h1; subst h2; subst h3
    simp only [if_true] at hlen
    have htl : (ss.take len).length = len := by rw [List.length_take]; omega
    refine ⟨ss.take len, htl, hl, ⟨htl, by simp [maxLen] at hm; omega, fun hp => ⟨a, rfl, fun j p hj => ⟨[.string p], rfl, rfl, fun i u hu => ?_⟩⟩⟩, fun hL => ⟨?_, fun x hxm => ?_⟩⟩
    · have hi : i = 0 := by
        have := (List.getElem?_eq_some_iff.1 hu).1
        simp at this; omega
      subst hi
      simp at hu
      subst hu
      have hjl : j < len := by
        have := (List.getElem?_eq_some_iff.1 hj).1
        omega
      rw [List.getElem?_take, if_pos hjl] at hj
      have := hcell j (by omega)
      have e : j * Kd.string.sz + 0 = j := by simp [Kd.string, Kd.scalar]
      rw [e, this, List.getD_eq_getElem?_getD, hj]; rfl
    · obtain ⟨hd, _⟩ := Prod.mk.inj hx
      have := hL ((strs (H := H) (ss.take len)).length * 16 + (strs (H := H) (ss.drop len)).length * 16) (by
        rw [hd]
        simp only [DataW.weights, Tryz.underlying23, by9]
        rw [← Nat.add_mul]
        exact List.mem_cons_self)
      simp [strs] at this
      omega
    · obtain ⟨hd, _⟩ := Prod.mk.inj hx
      refine hL x.size ?_
      rw [hd]
      simp only [DataW.weights, Tryz.underlying23]
      refine List.mem_cons_of_mem _ (List.mem_append_left _ (weightsAll_mem (d := .lit (.string x.data.toList)) ?_ ?_))
      · simp only [strs, List.mem_map]
        exact ⟨x, hxm, rfl⟩
      · rw [DataW.weights]
        exact List.mem_singleton.2 (by rw [Array.length_toList]; rfl)

theorem trod_str {n : Nat} {v : Value} {d : DataW H} {ps : List MemPlace} (h : DataW.trod enc Tryz.prog w 0 (fun _ => true) true n 9 [v] = some (d, ps)) : ∃ s : ByteArray, v = .string s ∧ d = .lit (.string s.data.toList) := by
  obtain ⟨s, hc, hx, _⟩ := DataW.trod_string Tryz.underlying9 h
  injection hc with hc _
  injection hx with hd _
  exact ⟨s, hc, hd⟩
/-- A row of labels. -/
theorem rd_labels {fuel : Nat} {A : Option Addr} {len cap : Nat} {d : DataW H} {ps : List MemPlace} (h : DataW.trod enc Tryz.prog w 0 (fun _ => true) true fuel 39 [.slice A len cap] = some (d, ps)) :
    ∃ xs : List S89, xs.length = len ∧ len ≤ cap ∧ k89.C w A len xs ∧ (Light 39 d → len * 32 ≤ 140737488351232 ∧ ∀ x ∈ xs, x.f0.size ≤ 140737488351232 ∧ x.f1.size ≤ 140737488351232) := by
  obtain ⟨f0, f1, hs, ho0, ho1, ht0, ht1⟩ : ∃ f0 f1 : Field, Tryz.prog.underlying 89 = some (.struct #[f0, f1]) ∧ f0.offset = 0 ∧ f1.offset = 1 ∧ f0.type = 9 ∧ f1.type = 9 := ⟨_, _, Tryz.underlying89, rfl, rfl, rfl, rfl⟩
  rcases Deep.open_slice_pairs Tryz.underlying39 hs c89 ho0 ho1 (by rw [ht0]; exact c9) (by rw [ht1]; exact c9) h with ⟨hcs, _⟩ | ⟨a, l, c, m, n, V0, V1, D0, D1, P0, P1, hcs, _, hl, hm, hmm, hx, hel⟩
  · injection hcs with hcs _
    injection hcs with h1 h2 h3
    subst h1; subst h2; subst h3
    exact ⟨[], rfl, Nat.le_refl _, Kd.C_nil _ _, fun _ => ⟨by simp, by simp⟩⟩
  · injection hcs with hcs _
    injection hcs with h1 h2 h3
    subst h1; subst h2; subst h3
    simp only [if_true] at hmm
    rw [ht0, ht1] at hel
    have hv : ∀ i, ∃ p : S89, i < len → V0 i = .string p.f0 ∧ V1 i = .string p.f1 ∧ D0 i = .lit (.string p.f0.data.toList) ∧ D1 i = .lit (.string p.f1.data.toList) := fun i => by
      by_cases hi : i < len
      · obtain ⟨_, _, g0, g1⟩ := hel i (by omega)
        obtain ⟨s0, e0, d0⟩ := trod_str g0
        obtain ⟨s1, e1, d1⟩ := trod_str g1
        exact ⟨⟨s0, s1⟩, fun _ => ⟨e0, e1, d0, d1⟩⟩
      · exact ⟨⟨ByteArray.empty, ByteArray.empty⟩, fun h => absurd h hi⟩
    obtain ⟨p, hp⟩ := Classical.axiomOfChoice hv
    have hgl : ((List.range len).map p).length = len := by simp
    refine ⟨(List.range len).map p, hgl, hl, ⟨hgl, by simp [maxLen] at hm; omega, fun _ => ⟨a, rfl, fun j q hj => ⟨[.string q.f0, .string q.f1], rfl, k89_of w q, fun i u hu => ?_⟩⟩⟩, fun hL => ⟨?_, fun x hxm => ?_⟩⟩
    · have hjl : j < len := by
        have := (List.getElem?_eq_some_iff.1 hj).1
        simpa using this
      have hq : p j = q := by
        rw [List.getElem?_map, List.getElem?_range hjl] at hj
        exact Option.some.inj hj
      obtain ⟨e0, e1, _⟩ := hp j hjl
      obtain ⟨x0, x1, _⟩ := hel j (by omega)
      match i, hu with
      | 0, hu =>
        have hu' : Value.string q.f0 = u := Option.some.inj hu
        subst hu'
        rw [e0, hq] at x0
        exact x0
      | 1, hu =>
        have hu' : Value.string q.f1 = u := Option.some.inj hu
        subst hu'
        rw [e1, hq] at x1
        exact x1
    · obtain ⟨hd, _⟩ := Prod.mk.inj hx
      have := hL _ (by
        rw [hd]
        simp only [DataW.weights, Tryz.underlying39, by89]
        exact List.mem_cons_self)
      simp at this
      omega
    · obtain ⟨j, hj, rfl⟩ := List.mem_map.1 hxm
      have hjl : j < len := List.mem_range.1 hj
      obtain ⟨_, _, d0, d1⟩ := hp j hjl
      obtain ⟨hd, _⟩ := Prod.mk.inj hx
      have hin : ∀ n, n ∈ DataW.weights Tryz.prog 89 (.agg [D0 j, D1 j] : DataW H) → n ≤ 140737488351232 := fun n hn => hL n (by
        rw [hd]
        simp only [DataW.weights, Tryz.underlying39]
        exact List.mem_cons_of_mem _ (List.mem_append_left _ (weightsAll_mem (d := .agg [D0 j, D1 j]) (List.mem_map.2 ⟨j, hj, rfl⟩) hn)))
      have hw : DataW.weights Tryz.prog 89 (.agg [D0 j, D1 j] : DataW H) = DataW.weights Tryz.prog 9 (D0 j) ++ (DataW.weights Tryz.prog 9 (D1 j) ++ []) := by
        rw [DataW.weights]
        simp only [hs]
        show DataW.weightsEach Tryz.prog [f0.type, f1.type] [D0 j, D1 j] = _
        rw [ht0, ht1]
        rfl
      rw [hw, d0, d1] at hin
      refine ⟨hin _ (List.mem_append_left _ ?_), hin _ (List.mem_append_right _ (List.mem_append_left _ ?_))⟩
      · rw [DataW.weights]
        exact List.mem_singleton.2 (by rw [Array.length_toList]; rfl)
      · rw [DataW.weights]
        exact List.mem_singleton.2 (by rw [Array.length_toList]; rfl)
end
end Go.Proofs.YtoncpeadbhgmaaaGreatDoor.G

