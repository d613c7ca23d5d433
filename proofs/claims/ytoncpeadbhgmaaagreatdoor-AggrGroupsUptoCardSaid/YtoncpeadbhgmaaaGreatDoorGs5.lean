/- Parts of the proof of AggrGroups. -/
import Derived.ArgAppend
import Derived.Below
import Derived.BigQuiet
import Derived.Deep.AppendLies
import Derived.Deep.CutBlock
import Derived.Deep.DeepCutAuto
import Derived.Deep.Draws
import Derived.Deep.LoopGhost
import Derived.Deep.OwnRows
import Derived.Deep.QuietTactic
import Derived.Deep.RegionHeld3
import Derived.Ground.NamesProg
import Derived.KernelRfl
import Derived.Laws.BitsLemmas
import Derived.Laws.BytesArg
import Derived.Laws.IdiomCopy
import Derived.Laws.MakeOwn
import Derived.Laws.OwnMore
import Derived.Laws.Rows
import Derived.Laws.Slices
import Derived.Laws.StructEq
import Derived.Lib.AppendStr
import Derived.Lib.ConvBytes
import Derived.Maps.AppendAt
import Derived.OrdersHeld
import Derived.OwnWalk
import Derived.RowKit
import Derived.RowKit3
import Derived.Shelf.Bits.Mul64
import Derived.Shelf.SlSortCmp.NoneTotal
import Derived.Shelf.Small.Strs
import Derived.Shelf.Strings.Search1
import Derived.Shelf.Unicode.ValidAny
import Derived.Sort.Grow
import Derived.Tactics
import Derived.Test.YtoncpeadbhgmaaaGreatDoorGs0
import Derived.Test.YtoncpeadbhgmaaaGreatDoorGs1
import Derived.Test.YtoncpeadbhgmaaaGreatDoorProg
import Derived.WalkKit
import Derived.WideLaws
set_option linter.unusedVariables false
set_option linter.unusedSimpArgs false
namespace Go.Proofs.YtoncpeadbhgmaaaGreatDoor.G
open Go.RowKit Go.Sort Go.Shelf Go.Proofs.YtoncpeadbhgmaaaGreatDoorW.PrintWords

/-- What the sort leaves: all but the row's own block. -/
def SortKept (W w' : World) (v : Value) : Prop := w'.os = W.os ∧ w'.tape = W.tape ∧ w'.output = W.output ∧ W.heap.size ≤ w'.heap.size ∧ ∀ k, k < W.heap.size → some k ≠ v.ownBlock → w'.heap[k]? = W.heap[k]?
theorem SortKept.below {W w' : World} {v : Value} {B : Nat} (h : SortKept W w' v) (hv : ∀ k, v.ownBlock = some k → B ≤ k) : B ≤ W.heap.size → Below B W w' := fun hB =>
  ⟨h.1, h.2.1, h.2.2.1, h.2.2.2.1, fun k hk => h.2.2.2.2 k (by omega) (fun e => by have := hv k e.symm; omega)⟩

/-- An element with its cells. -/
def El {A : Type} (d : Kd A) (W : World) (base : Nat) (okp : Nat → Prop) : Type := { p : List Value × A // p.1.length = d.sz ∧ (∀ u ∈ p.1, u.oneCell' = true) ∧ d.M W base okp p.2 p.1 }

theorem kept_world {α : Type} [Inhabited α] (enc : α → List Value) (k : Nat) (W : World) (blk n : Nat) (d' : Array α) (os : Array Obj) (c : Array Value) (e : Nat) (hb : W.heap[blk]? = some (.cells c e (0, 0))) (v : Value) (hv : v.ownBlock = some blk) :
    SortKept W (sortWorldK enc k W blk 0 n d' os) v := by
  have hlt : blk < W.heap.size := (Array.getElem?_eq_some_iff.1 hb).1
  refine ⟨rfl, rfl, rfl, ?_, fun j hj hne => ?_⟩
  · simp [sortWorldK, putRowK, size_grow]
  · simp only [sortWorldK]
    rw [heap_grow_old _ _ (by simpa [putRowK] using hj)]
    simp only [putRowK, putRow, mapBlock]
    rw [Array.getElem?_modify]
    rw [hv] at hne
    rw [if_neg (fun h => hne (by rw [h]))]
    rfl

theorem flat_chunk {α : Type} [Inhabited α] (enc : α → List Value) (k : Nat) (hk : ∀ x, (enc x).length = k) (d : Array α) (j : Nat) (hj : j < d.size) : ((flatK enc k d).toList.drop (j * k)).take k = enc d[j]! := by
  apply List.ext_getElem
  · have hle : j * k + k ≤ d.size * k := by rw [← Nat.succ_mul]; exact Nat.mul_le_mul_right _ hj
    simp [hk]; omega
  · intro i h1 h2
    have hi : i < k := by rw [hk] at h2; exact h2
    have hle : j * k + k ≤ d.size * k := by rw [← Nat.succ_mul]; exact Nat.mul_le_mul_right _ hj
    have hg := get_flatK enc k d (j * k + i) (by omega)
    have hdiv : (j * k + i) / k = j := by
      rw [Nat.mul_comm, Nat.mul_add_div (by omega), Nat.div_eq_of_lt hi]; omega
    have hmod : (j * k + i) % k = i := by
      rw [Nat.mul_comm, Nat.mul_add_mod]; exact Nat.mod_eq_of_lt hi
    rw [hdiv, hmod] at hg
    rw [getElem!_pos (flatK enc k d) _ (by simp; omega)] at hg
    simp only [List.getElem_take, List.getElem_drop, Array.getElem_toList]
    rw [hg, getElem!_pos (enc d[j]!) _ h2]

theorem kept_row {α : Type} [Inhabited α] (enc : α → List Value) (k : Nat) (W : World) (blk n : Nat) (d' : Array α) (os : Array Obj) (c : Array Value) (e : Nat) (hb : W.heap[blk]? = some (.cells c e (0, 0))) (hc : d'.size * k ≤ c.size) :
    ∃ c', (sortWorldK enc k W blk 0 n d' os).heap[blk]? = some (.cells c' e (0, 0)) ∧ c'.size = c.size ∧ c'.toList.take (d'.size * k) = (flatK enc k d').toList := by
  have hlt : blk < W.heap.size := (Array.getElem?_eq_some_iff.1 hb).1
  refine ⟨putCells id 0 (flatK enc k d') c, ?_, by simp [putCells], ?_⟩
  · simp only [sortWorldK]
    rw [heap_grow_old _ _ (by simpa [putRowK] using hlt)]
    simp only [putRowK, putRow, mapBlock]
    rw [Array.getElem?_modify, if_pos rfl]
    show (W.heap[blk]?).map _ = _
    rw [hb]; rfl
  · apply List.ext_getElem
    · simp [putCells]; omega
    · intro i h1 h2
      have hi : i < (flatK enc k d').size := by simpa using h2
      simp only [List.getElem_take, Array.getElem_toList, putCells, Array.getElem_mapIdx, Nat.zero_le, true_and, Nat.zero_add, Nat.sub_zero, id]
      rw [if_pos hi, getElem!_pos (flatK enc k d') _ hi]

theorem swo_sub {A : Type} {c : A → A → Int} (h : SWO (ltOf c)) {B : Type} (f : B → A) : SWO (ltOf fun x y : B => c (f x) (f y)) :=
  ⟨fun x => h.irrefl (f x), fun x y z => h.trans (f x) (f y) (f z), fun x y z => h.ntrans (f x) (f y) (f z)⟩

set_option maxHeartbeats 1000000 in
/-- slices.SortFunc over a row of one's own: the same elements, rising by the comparison; nothing but the row's block is turned. -/
theorem sort_rows {A : Type} (d : Kd A) {ρ : Ren} (L : SlLaysF0.n6 Tryz.prog ρ) (aE : ∀ w, (isAgg (ρ.t 24)).run Tryz.prog w = .ok true w) (zE : ∀ w, (Go.sizeOf (ρ.t 24)).run Tryz.prog w = .ok d.sz w)
    (c : A → A → Int) (hO : SWO (ltOf c)) (g : Nat) (cb : Array Value) (eg : ∀ args w, (callFunc g args).run Tryz.prog w = .ok (.enter g args) w)
    (e base : Nat) (ok : Nat → Prop) (v : Value) (xs : List A) (W : World) (ho : d.R e W base ok v xs) (hl : xs.length < 4611686018427387904)
    (hcmp : ∀ (W' : World) (x y : A) (cx cy : List Value), SortKept W W' v → d.K W' x cx → d.K W' y cy → Calls Tryz.prog g (#[.agg cx.toArray, .agg cy.toArray] ++ cb) W' fun e w' => e = .returned (.int .i64 (c x y)) ∧ Grew W' w') :
    Calls Tryz.prog (ρ.f 6) #[v, .func (.func g) #[] cb] W fun e' w' => e' = .returned (.tuple #[]) ∧ ∃ ys : List A, ys.Perm xs ∧ (ys.Pairwise fun a b => ¬ c b a < 0) ∧ d.R e w' base ok v ys ∧ SortKept W w' v := by
  obtain ⟨h0, inner, ho1, hr⟩ := ho
  rcases ho1.2 with ⟨rfl, hn⟩ | ⟨blk, cap, cur, rfl, hbase, hb, hnc, hcm, hcs, ht⟩
  · have hx : xs = [] := List.eq_nil_of_length_eq_zero hn
    subst hx
    refine (AnyF.slices_SortFunc_none L none 0 _ W).mono ?_
    rintro e' w' ⟨rfl, rfl⟩
    exact ⟨rfl, [], List.Perm.refl _, List.Pairwise.nil, Kd.R_nil _ _ _ _ _, rfl, rfl, rfl, Nat.le_refl _, fun _ _ _ => rfl⟩
  · by_cases hx : xs = []
    · subst hx
      refine (AnyF.slices_SortFunc_none L _ _ _ W).mono ?_
      rintro e' w' ⟨rfl, rfl⟩
      exact ⟨rfl, [], List.Perm.refl _, List.Pairwise.nil, ⟨h0, inner, ho1, hr⟩, rfl, rfl, rfl, Nat.le_refl _, fun _ _ _ => rfl⟩
    · let okp : Nat → Prop := fun k => ok k ∧ some k ≠ (Value.slice (some ⟨blk, 0, none⟩) xs.length cap).ownBlock
      have hel : ∀ i : Fin xs.length, (((inner.drop (i.1 * d.sz)).take d.sz).length = d.sz ∧ (∀ u ∈ (inner.drop (i.1 * d.sz)).take d.sz, u.oneCell' = true) ∧ d.M W base okp xs[i] ((inner.drop (i.1 * d.sz)).take d.sz)) := fun i => by
        have h := hr.2 i.1 xs[i] (by simp)
        exact ⟨d.K_len (d.K_of_M h), d.K_one (d.K_of_M h), h⟩
      let f : Fin xs.length → El d W base okp := fun i => ⟨((inner.drop (i.1 * d.sz)).take d.sz, xs[i]), hel i⟩
      let D : Array (El d W base okp) := Array.ofFn f
      have hDs : D.size = xs.length := Array.size_ofFn
      have hDg : ∀ (i : Nat) (hi : i < D.size), (D[i]'hi).1 = ((inner.drop (i * d.sz)).take d.sz, xs[i]'(by omega)) := fun i hi => by
        exact congrArg Subtype.val (Array.getElem_ofFn (f := f) (i := i) hi)
      haveI : Inhabited (El d W base okp) := ⟨D[0]'(by rw [hDs]; exact List.length_pos_iff.2 hx)⟩
      let enc : El d W base okp → List Value := fun p => p.1.1
      have hk : ∀ x, (enc x).length = d.sz := fun x => x.2.1
      have h1 : ∀ x, ∀ u ∈ enc x, u.oneCell' = true := fun x => x.2.2.1
      have hblk : blk < W.heap.size := (Array.getElem?_eq_some_iff.1 hb).1
      have hflat : (flatK enc d.sz D).toList = inner := by
        apply List.ext_getElem
        · simp [hDs]; rw [ho1.1]
        · intro t t1 t2
          have ht' : t < D.size * d.sz := by simpa using t1
          have hz : 0 < d.sz := by
            rcases Nat.eq_zero_or_pos d.sz with h | h
            · rw [h] at ht'; omega
            · exact h
          have hj : t / d.sz < D.size := Nat.div_lt_of_lt_mul (by rw [Nat.mul_comm]; exact ht')
          have hg := get_flatK enc d.sz D t ht'
          rw [getElem!_pos (flatK enc d.sz D) _ (by simpa using ht')] at hg
          rw [Array.getElem_toList, hg, getElem!_pos D _ hj]
          have hm : t % d.sz < d.sz := Nat.mod_lt _ hz
          have he : enc D[t / d.sz] = (inner.drop (t / d.sz * d.sz)).take d.sz := by show (D[t / d.sz].1).1 = _; rw [hDg _ hj]
          rw [getElem!_pos (enc D[t / d.sz]) _ (by rw [hk]; exact hm)]
          simp only [he, List.getElem_take, List.getElem_drop]
          congr 1
          rw [Nat.mul_comm]; exact Nat.div_add_mod _ _
      have hH : HoldsK enc d.sz W blk 0 D := by
        intro t ht'
        have htl : t < inner.length := by rw [← hflat]; simpa using ht'
        have hcur : cur[t]? = some inner[t] := by
          have h3 : (cur.toList.take (xs.length * d.sz))[t]? = some inner[t] := by rw [ht]; exact List.getElem?_eq_getElem htl
          rw [List.getElem?_take] at h3
          split at h3
          · simpa using h3
          · cases h3
        have hval : (flatK enc d.sz D)[t]! = inner[t] := by
          rw [getElem!_pos (flatK enc d.sz D) _ ht']
          have : (flatK enc d.sz D).toList[t]'(by simpa using ht') = inner[t] := by simp only [hflat]
          simpa using this
        refine ⟨?_, ?_⟩
        · simp only [World.cell?, hb, Nat.zero_add]
          simp [hcur, hval]
        · simp [World.frozen?, hb]
      have hcmp' : CmpLays Tryz.prog g cb enc d.sz (fun x y : El d W base okp => c x.1.2 y.1.2) blk 0 D.size W := by
        intro m os dk hdk x y
        have hkw := kept_world enc d.sz W blk m dk os cur e hb (.slice (some ⟨blk, 0, none⟩) xs.length cap) rfl
        have hKx : ∀ z : El d W base okp, d.K (sortWorldK enc d.sz W blk 0 m dk os) z.1.2 z.1.1 := fun z =>
          d.K_of_M (Kd.M_step z.2.2.2 (fun j hj hlt => hkw.2.2.2.2 j hlt hj.2))
        have h := hcmp _ x.1.2 y.1.2 x.1.1 y.1.1 hkw (hKx x) (hKx y)
        exact h.mono fun e' w' ⟨he, n, os', hw⟩ => ⟨he, n, os', hw⟩
      have hcon := AnyQ.slices_SortFunc L d.sz aE zE enc hk h1 (fun x y : El d W base okp => c x.1.2 y.1.2) (swo_sub hO _) g cb blk 0 cap D W eg hcmp' hH hblk (by rw [hDs]; exact hl)
      rw [hDs] at hcon
      refine hcon.mono ?_
      rintro e' w' ⟨rfl, d', n, os, hperm, hsort, rfl⟩
      have hd's : d'.size = xs.length := hperm.1.trans hDs
      have hkw := kept_world enc d.sz W blk n d' os cur e hb (.slice (some ⟨blk, 0, none⟩) xs.length cap) rfl
      refine ⟨rfl, d'.toList.map (fun p => p.1.2), ?_, ?_, ?_, hkw⟩
      · have h2 := hperm.2.2
        have h3 : d'.extract 0 xs.length = d' := by rw [← hd's]; simp
        have h4 : D.extract 0 xs.length = D := by rw [← hDs]; simp
        rw [h3, h4] at h2
        have h5 := h2.map (fun p : El d W base okp => p.1.2)
        have h6 : D.toList.map (fun p : El d W base okp => p.1.2) = xs := by
          apply List.ext_getElem
          · simp [hDs]
          · intro i i1 i2
            rw [List.getElem_map, Array.getElem_toList, hDg _ (by simpa using i1)]
        rw [h6] at h5
        exact h5
      · rw [List.pairwise_map, List.pairwise_iff_getElem]
        intro i j hi hj hij
        have hi' : i < d'.size := by simpa using hi
        have hj' : j < d'.size := by simpa using hj
        have h := hsort i j (Nat.zero_le _) hij (by omega)
        rw [getElem!_pos d' _ hj', getElem!_pos d' _ hi'] at h
        simpa [ltOf] using h
      · obtain ⟨c', hc1, hc2, hc3⟩ := kept_row enc d.sz W blk n d' os cur e hb (by rw [hd's, hcs]; exact Nat.mul_le_mul_right _ hnc)
        refine ⟨fun k hk' => h0 k hk', (flatK enc d.sz d').toList, ⟨by simp [hd's], .inr ⟨blk, cap, c', by simp [hd's], hbase, hc1, by simpa [hd's] using hnc, hcm, by rw [hc2, hcs], by simpa using hc3⟩⟩, by simp, fun j p hj => ?_⟩
        obtain ⟨hjl, hp⟩ := List.getElem?_eq_some_iff.1 hj
        have hj' : j < d'.size := by simpa using hjl
        rw [flat_chunk enc d.sz hk d' j hj', getElem!_pos d' _ hj']
        have hp2 : d'[j].1.2 = p := by simpa using hp
        subst hp2
        exact Kd.M_step d'[j].2.2.2 (fun k hk' hlt => hkw.2.2.2.2 k hlt hk'.2)
end Go.Proofs.YtoncpeadbhgmaaaGreatDoor.G

