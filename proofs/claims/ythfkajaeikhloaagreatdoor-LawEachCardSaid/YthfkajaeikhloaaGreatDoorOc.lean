/- slices.Sorted at what maps.Keys hands back: the shelf's contracts, laid at this dump (their numbers written out). -/
import Derived.Shelf.SlIter.Nil
import Derived.Shelf.SortM.Plain
import Derived.Shelf.SortM.SortNone
import Derived.Test.YthfkajaeikhloaaGreatDoorProg
import Derived.Test.YthfkajaeikhloaaGreatDoorXgD
set_option maxRecDepth 100000
namespace Go.Proofs.YthfkajaeikhloaaGreatDoor
open Go.RowKit Go.Maps Go.Sort Go.Shelf Go.ChangeMaps
def Tryz.keys196_ren : Go.Shelf.Ren := ⟨fun | 7 => 196 | 10 => 219 | n => n, fun | 23 => 155 | 26 => 9 | 3 => 38 | 28 => 189 | 0 => 0 | 27 => 188 | 33 => 128 | 4 => 4 | n => n, fun | n => n⟩
theorem Tryz.keys196 : Go.Proofs.SlLaysZ.n7 Tryz.prog Tryz.keys196_ren where
  mixed := by kernel_rfl
  f7 := ⟨"maps.Keys[map[string]tithe/api.Prov,string,tithe/api.Prov]", by decide, Tryz.func196.trans (congrArg some (by kernel_rfl))⟩
  f10 := ⟨"maps.Keys[map[string]tithe/api.Prov,string,tithe/api.Prov]$1", by decide, Tryz.func219.trans (congrArg some (by kernel_rfl))⟩
  t0 := Tryz.underlying0
  a0 := Tryz.isAgg0
  z0 := Tryz.sizeOf0
  v0 := Tryz.zeroValue0
  t4 := Tryz.underlying4
  a4 := Tryz.isAgg4
  z4 := Tryz.sizeOf4
  v4 := Tryz.zeroValue4
  t23 := Tryz.underlying155
  a23 := Tryz.isAgg155
  z23 := Tryz.sizeOf155
  v23 := Tryz.zeroValue155
  t26 := Tryz.underlying9
  a26 := Tryz.isAgg9
  z26 := Tryz.sizeOf9
  v26 := Tryz.zeroValue9
  t27 := Tryz.underlying188
  a27 := Tryz.isAgg188
  z27 := Tryz.sizeOf188
  v27 := Tryz.zeroValue188
  t28 := Tryz.underlying189
  a28 := Tryz.isAgg189
  z28 := Tryz.sizeOf189
  v28 := Tryz.zeroValue189
  t33 := Tryz.underlying128
  a33 := Tryz.isAgg128
  z33 := Tryz.sizeOf128
  v33 := Tryz.zeroValue128
def Tryz.sorted195_ren : Go.Shelf.Ren := ⟨fun | 6 => 195 | 8 => 217 | 9 => 218 | 11 => 237 | 13 => 239 | 12 => 238 | 23 => 265 | 24 => 266 | 14 => 256 | 15 => 257 | 16 => 258 | 17 => 259 | 18 => 260 | 19 => 261 | 20 => 262 | 21 => 263 | 22 => 264 | 25 => 291 | 26 => 292 | 27 => 293 | 28 => 294 | 29 => 295 | 30 => 296 | 31 => 310 | n => n, fun | 26 => 9 | 28 => 189 | 24 => 186 | 0 => 0 | 3 => 3 | 37 => 163 | 48 => 110 | 50 => 183 | 4 => 4 | 40 => 233 | 39 => 232 | 45 => 69 | 5 => 5 | 9 => 9 | 51 => 257 | 55 => 260 | 57 => 269 | 58 => 192 | 33 => 128 | n => n, fun | n => n⟩
theorem Tryz.sorted195 : Go.Proofs.SlLaysZ.n6 Tryz.prog Tryz.sorted195_ren where
  mixed := by kernel_rfl
  f6 := ⟨"slices.Sorted[string]", by decide, Tryz.func195.trans (congrArg some (by kernel_rfl))⟩
  f8 := ⟨"slices.Collect[string]", by decide, Tryz.func217.trans (congrArg some (by kernel_rfl))⟩
  f11 := ⟨"slices.AppendSeq[[]string,string]", by decide, Tryz.func237.trans (congrArg some (by kernel_rfl))⟩
  t0 := Tryz.underlying0
  a0 := Tryz.isAgg0
  z0 := Tryz.sizeOf0
  v0 := Tryz.zeroValue0
  t24 := Tryz.underlying186
  a24 := Tryz.isAgg186
  z24 := Tryz.sizeOf186
  v24 := Tryz.zeroValue186
  t26 := Tryz.underlying9
  a26 := Tryz.isAgg9
  z26 := Tryz.sizeOf9
  v26 := Tryz.zeroValue9
  t28 := Tryz.underlying189
  a28 := Tryz.isAgg189
  z28 := Tryz.sizeOf189
  v28 := Tryz.zeroValue189
  i26 := by kernel_rfl
def Tryz.sort218_ren : Go.Shelf.Ren := ⟨fun | 6 => 218 | 8 => 239 | 9 => 238 | 19 => 265 | 20 => 266 | 21 => 256 | 22 => 257 | 23 => 258 | 24 => 259 | 25 => 260 | 26 => 261 | 27 => 262 | 28 => 263 | 29 => 264 | 36 => 291 | 31 => 292 | 32 => 293 | 37 => 294 | 38 => 295 | 39 => 296 | 41 => 310 | n => n, fun | 27 => 186 | 29 => 9 | 3 => 3 | 32 => 163 | 26 => 186 | 0 => 0 | 44 => 110 | 46 => 183 | 4 => 4 | 36 => 233 | 35 => 232 | 41 => 69 | 5 => 5 | 9 => 9 | 53 => 257 | 57 => 260 | 63 => 269 | 64 => 192 | n => n, fun | n => n⟩
theorem Tryz.sort218 : Go.Proofs.SlLaysM.n6 Tryz.prog Tryz.sort218_ren where
  mixed := by kernel_rfl
  f6 := ⟨"slices.Sort[[]string,string]", by decide, Tryz.func218.trans (congrArg some (by kernel_rfl))⟩
  f8 := Tryz.func239.trans (congrArg some (by kernel_rfl))
  f9 := ⟨"slices.pdqsortOrdered[string]", by decide, Tryz.func238.trans (congrArg some (by kernel_rfl))⟩
  f19 := Tryz.func265.trans (congrArg some (by kernel_rfl))
  f20 := Tryz.func266.trans (congrArg some (by kernel_rfl))
  f21 := ⟨"slices.insertionSortOrdered[string]", by decide, Tryz.func256.trans (congrArg some (by kernel_rfl))⟩
  f22 := ⟨"slices.heapSortOrdered[string]", by decide, Tryz.func257.trans (congrArg some (by kernel_rfl))⟩
  f23 := ⟨"slices.breakPatternsOrdered[string]", by decide, Tryz.func258.trans (congrArg some (by kernel_rfl))⟩
  f24 := ⟨"slices.choosePivotOrdered[string]", by decide, Tryz.func259.trans (congrArg some (by kernel_rfl))⟩
  f25 := ⟨"slices.reverseRangeOrdered[string]", by decide, Tryz.func260.trans (congrArg some (by kernel_rfl))⟩
  f26 := ⟨"slices.partialInsertionSortOrdered[string]", by decide, Tryz.func261.trans (congrArg some (by kernel_rfl))⟩
  f27 := ⟨"cmp.Less[string]", by decide, Tryz.func262.trans (congrArg some (by kernel_rfl))⟩
  f28 := ⟨"slices.partitionEqualOrdered[string]", by decide, Tryz.func263.trans (congrArg some (by kernel_rfl))⟩
  f29 := ⟨"slices.partitionOrdered[string]", by decide, Tryz.func264.trans (congrArg some (by kernel_rfl))⟩
  f31 := Tryz.func292.trans (congrArg some (by kernel_rfl))
  f32 := Tryz.func293.trans (congrArg some (by kernel_rfl))
  f36 := ⟨"slices.siftDownOrdered[string]", by decide, Tryz.func291.trans (congrArg some (by kernel_rfl))⟩
  f37 := ⟨"slices.medianAdjacentOrdered[string]", by decide, Tryz.func294.trans (congrArg some (by kernel_rfl))⟩
  f38 := ⟨"slices.medianOrdered[string]", by decide, Tryz.func295.trans (congrArg some (by kernel_rfl))⟩
  f39 := ⟨"cmp.isNaN[string]", by decide, Tryz.func296.trans (congrArg some (by kernel_rfl))⟩
  f41 := ⟨"slices.order2Ordered[string]", by decide, Tryz.func310.trans (congrArg some (by kernel_rfl))⟩
  t0 := Tryz.underlying0
  a0 := Tryz.isAgg0
  z0 := Tryz.sizeOf0
  v0 := Tryz.zeroValue0
  t3 := Tryz.underlying3
  a3 := Tryz.isAgg3
  z3 := Tryz.sizeOf3
  v3 := Tryz.zeroValue3
  t4 := Tryz.underlying4
  a4 := Tryz.isAgg4
  z4 := Tryz.sizeOf4
  v4 := Tryz.zeroValue4
  t5 := Tryz.underlying5
  a5 := Tryz.isAgg5
  z5 := Tryz.sizeOf5
  v5 := Tryz.zeroValue5
  t9 := Tryz.underlying9
  a9 := Tryz.isAgg9
  z9 := Tryz.sizeOf9
  v9 := Tryz.zeroValue9
  t26 := Tryz.underlying186
  a26 := Tryz.isAgg186
  z26 := Tryz.sizeOf186
  v26 := Tryz.zeroValue186
  t27 := Tryz.underlying186
  a27 := Tryz.isAgg186
  z27 := Tryz.sizeOf186
  v27 := Tryz.zeroValue186
  t29 := Tryz.underlying9
  a29 := Tryz.isAgg9
  z29 := Tryz.sizeOf9
  v29 := Tryz.zeroValue9
  t32 := Tryz.underlying163
  a32 := Tryz.isAgg163
  z32 := Tryz.sizeOf163
  v32 := Tryz.zeroValue163
  t35 := Tryz.underlying232
  a35 := Tryz.isAgg232
  z35 := Tryz.sizeOf232
  v35 := Tryz.zeroValue232
  t36 := Tryz.underlying233
  a36 := Tryz.isAgg233
  z36 := Tryz.sizeOf233
  v36 := Tryz.zeroValue233
  t41 := Tryz.underlying69
  a41 := Tryz.isAgg69
  z41 := Tryz.sizeOf69
  v41 := Tryz.zeroValue69
  t44 := Tryz.underlying110
  a44 := Tryz.isAgg110
  z44 := Tryz.sizeOf110
  v44 := Tryz.zeroValue110
  t46 := Tryz.underlying183
  a46 := Tryz.isAgg183
  z46 := Tryz.sizeOf183
  v46 := Tryz.zeroValue183
  t53 := Tryz.underlying257
  a53 := Tryz.isAgg257
  z53 := Tryz.sizeOf257
  v53 := Tryz.zeroValue257
  t57 := Tryz.underlying260
  a57 := Tryz.isAgg260
  z57 := Tryz.sizeOf260
  v57 := Tryz.zeroValue260
  t63 := Tryz.underlying269
  a63 := Tryz.isAgg269
  z63 := Tryz.sizeOf269
  v63 := Tryz.zeroValue269
  t64 := Tryz.underlying192
  a64 := Tryz.isAgg192
  z64 := Tryz.sizeOf192
  v64 := Tryz.zeroValue192
theorem Tryz.sorts195 (m : Nat) : AnyZ.SortsIn Tryz.prog Tryz.sorted195_ren Fence.wide m :=
  ⟨fun blk off cap ss W hH hblk hsz => callsIn_wide.2 (AnyM.slices_Sort_string Tryz.sort218 blk off cap ss W hH hblk hsz),
   fun p cap W => callsIn_wide.2 (AnyM.slices_Sort_string_none Tryz.sort218 p cap W)⟩
set_option maxHeartbeats 1000000 in
theorem sortC : Xq.SortC Tryz.prog 195 219 9 where
  body := by kernel_rfl
  run := fun W pb b pt es clock hp hb hst hsz hk => by
    have key : ∀ x ∈ es.toList, keyOf Tryz.prog 9 x.key = some (.string (Xq.keyB x.key)) := fun x hx => by
      obtain ⟨a, h1, h2⟩ := hk x hx
      rw [h2]
      simp [keyOf, Tryz.underlying9, mapKey, h1, Xq.keyB]
    have reads : ∀ x ∈ es.toList, WideElems.rd (H := Unit) Tryz.prog 9 (fun _ => some (.nil, [])) x = some (.string (Xq.keyB x.key), .nil) := fun x hx => by
      simp [WideElems.rd, key x hx]
    have hown : W.ownsMap (H := Unit) Tryz.prog 9 (fun _ => some (.nil, [])) b es.size (.map ((es.toList.map (WideElems.rg Tryz.prog 9 (fun _ => some (.nil, [])))).foldr DataW.insert [])) :=
      ⟨es, clock, hb, ⟨Nat.le_trans hsz (by decide), hst, fun x hx => ⟨_, reads x hx⟩⟩, Nat.le_refl _, rfl⟩
    have perm := WideShapes.sorted_perm (es.toList.map (WideElems.rg (H := Unit) Tryz.prog 9 (fun _ => some (.nil, []))))
    have hlen : Maps.size (DataW.map ((es.toList.map (WideElems.rg (H := Unit) Tryz.prog 9 (fun _ => some (.nil, [])))).foldr DataW.insert [])) = es.size := by
      rw [Maps.size_eq, perm.length_eq]; simp
    have hkeys : (strKeys (DataW.map ((es.toList.map (WideElems.rg (H := Unit) Tryz.prog 9 (fun _ => some (.nil, [])))).foldr DataW.insert []))).Perm (es.toList.map fun x => Xq.keyB x.key) := by
      refine (perm.map fun p => strOf p.1).trans (List.Perm.of_eq ?_)
      rw [List.map_map]
      refine List.map_congr_left fun x hx => ?_
      show strOf (WideElems.rg Tryz.prog 9 _ x).1 = _
      rw [WideElems.rg_of (reads x hx)]
      rfl
    have hpl : pb < W.heap.size := (Array.getElem?_eq_some_iff.1 hp).1
    have hcell : W.cell? ⟨pb, 0, none⟩ = some (.map (some b)) := by simp [World.cell?, hp]
    have hseq : SeqGives Fence.wide 2 Tryz.prog 219 #[.pointer (some ⟨pb, 0, none⟩)] encStr (fun ss => ss.Perm (strKeys _)) (Maps.size _) W :=
      AnyZ.keys_gives (ρ := Tryz.keys196_ren) { Tryz.keys196 with } Fence.wide _ trivial rfl (by omega) pb b es.size _ W hpl hcell hown
    have hS := AnyZ.sorted_in Tryz.sorted195 Fence.wide 5 trivial trivial trivial trivial rfl (by omega) (Tryz.sorts195 _) (enters_of Tryz.func218 (by kernel_rfl) rfl) 219 #[.pointer (some ⟨pb, 0, none⟩)] trivial (enters_of Tryz.func219 (by kernel_rfl) rfl) _ _
      (by rw [hlen]; exact Nat.le_trans hsz (by decide)) (by rw [hlen]; omega) W hseq
    refine (callsIn_wide.1 hS).mono ?_
    rintro e w' ⟨v, ss, he, hp', hrow, _, hbel⟩
    exact ⟨v, ss, he, hp'.trans hkeys, hrow, hbel⟩
end Go.Proofs.YthfkajaeikhloaaGreatDoor
