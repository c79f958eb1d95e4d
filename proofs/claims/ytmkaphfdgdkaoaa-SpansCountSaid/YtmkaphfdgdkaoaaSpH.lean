/- The contract of slices.Sort, in the words of the symbolic run. -/
import Derived.Test.YtmkaphfdgdkaoaaSpG
import Derived.Test.YtmkaphfdgdkaoaaSpD
import Derived.Shelf.Sort.Plain
import Derived.Shelf.Slices.In.SortNone
import Derived.Test.YtmkaphfdgdkaoaaProg
import Derived.Laws.Externs
set_option linter.unusedVariables false
set_option linter.unusedSimpArgs false
namespace Go.Proofs.Ytmkaphfdgdkaoaa
open Go.RowKit Go.ChangeShapes Go.WideShapes

open Go.Shelf in
def laysSort_ren : Go.Shelf.Ren := ⟨fun | 125 => 77 | 128 => 92 | 129 => 93 | 189 => 69 | 215 => 78 | 216 => 101 | 257 => 81 | 294 => 95 | 295 => 96 | 296 => 97 | 297 => 98 | 298 => 99 | 299 => 100 | 300 => 102 | 301 => 103 | 328 => 109 | 329 => 105 | 330 => 106 | 331 => 110 | 332 => 111 | 343 => 113 | n => n, fun | 0 => 0 | 3 => 3 | 4 => 4 | 5 => 5 | 9 => 9 | 28 => 27 | 46 => 73 | 51 => 109 | 53 => 111 | 131 => 71 | 182 => 102 | 183 => 103 | 218 => 119 | 222 => 123 | 228 => 127 | 229 => 128 | n => n, fun n => n⟩
open Go.Shelf in
theorem laysSort : Lays.n189 Try.prog laysSort_ren := {
  mixed := by kernel_rfl
  f125 := Try.func77.trans (congrArg some (by kernel_rfl))
  f128 := Try.func92.trans (congrArg some (by kernel_rfl))
  f129 := Try.func93.trans (congrArg some (by kernel_rfl))
  f189 := Try.func69.trans (congrArg some (by kernel_rfl))
  f215 := Try.func78.trans (congrArg some (by kernel_rfl))
  f216 := Try.func101.trans (congrArg some (by kernel_rfl))
  f257 := Try.func81.trans (congrArg some (by kernel_rfl))
  f294 := Try.func95.trans (congrArg some (by kernel_rfl))
  f295 := Try.func96.trans (congrArg some (by kernel_rfl))
  f296 := Try.func97.trans (congrArg some (by kernel_rfl))
  f297 := Try.func98.trans (congrArg some (by kernel_rfl))
  f298 := Try.func99.trans (congrArg some (by kernel_rfl))
  f299 := Try.func100.trans (congrArg some (by kernel_rfl))
  f300 := Try.func102.trans (congrArg some (by kernel_rfl))
  f301 := Try.func103.trans (congrArg some (by kernel_rfl))
  f328 := Try.func109.trans (congrArg some (by kernel_rfl))
  f329 := Try.func105.trans (congrArg some (by kernel_rfl))
  f330 := Try.func106.trans (congrArg some (by kernel_rfl))
  f331 := Try.func110.trans (congrArg some (by kernel_rfl))
  f332 := Try.func111.trans (congrArg some (by kernel_rfl))
  f343 := Try.func113.trans (congrArg some (by kernel_rfl))
  t0 := Try.underlying0
  a0 := Try.isAgg0
  z0 := Try.sizeOf0
  v0 := Try.zeroValue0
  t3 := Try.underlying3
  a3 := Try.isAgg3
  z3 := Try.sizeOf3
  v3 := Try.zeroValue3
  t4 := Try.underlying4
  a4 := Try.isAgg4
  z4 := Try.sizeOf4
  v4 := Try.zeroValue4
  t5 := Try.underlying5
  a5 := Try.isAgg5
  z5 := Try.sizeOf5
  v5 := Try.zeroValue5
  t9 := Try.underlying9
  a9 := Try.isAgg9
  z9 := Try.sizeOf9
  v9 := Try.zeroValue9
  t28 := Try.underlying27
  a28 := Try.isAgg27
  z28 := Try.sizeOf27
  v28 := Try.zeroValue27
  t46 := Try.underlying73
  a46 := Try.isAgg73
  z46 := Try.sizeOf73
  v46 := Try.zeroValue73
  t51 := Try.underlying109
  a51 := Try.isAgg109
  z51 := Try.sizeOf109
  v51 := Try.zeroValue109
  t53 := Try.underlying111
  a53 := Try.isAgg111
  z53 := Try.sizeOf111
  v53 := Try.zeroValue111
  t131 := Try.underlying71
  a131 := Try.isAgg71
  z131 := Try.sizeOf71
  v131 := Try.zeroValue71
  t182 := Try.underlying102
  a182 := Try.isAgg102
  z182 := Try.sizeOf102
  v182 := Try.zeroValue102
  t183 := Try.underlying103
  a183 := Try.isAgg103
  z183 := Try.sizeOf103
  v183 := Try.zeroValue103
  t218 := Try.underlying119
  a218 := Try.isAgg119
  z218 := Try.sizeOf119
  v218 := Try.zeroValue119
  t222 := Try.underlying123
  a222 := Try.isAgg123
  z222 := Try.sizeOf123
  v222 := Try.zeroValue123
  t228 := Try.underlying127
  a228 := Try.isAgg127
  z228 := Try.sizeOf127
  v228 := Try.zeroValue127
  t229 := Try.underlying128
  a229 := Try.isAgg128
  z229 := Try.sizeOf128
  v229 := Try.zeroValue128
}
theorem flat_rowsI (o : List Int) : flat [some .i64] (rowsI o) = o.map (Value.int .i64) := by
  unfold flat rowsI
  induction o with
  | nil => rfl
  | cons x o ih => simp only [List.map_cons, List.flatMap_cons]; rw [ih]; rfl
def sM_ssort (key : Nat) : Sm := ⟨69, key, [.one (.sl [some .i64] 3)], [], true⟩
def sF_ssort : List Dt → List Dt
  | [.l L] => [.l (rowsI (srt (L.map fun r => r.getD 0 0)))]
  | _ => []
def sQ_ssort : List Dt → Prop
  | [.l L] => RowsIn [some .i64] L ∧ L.length < 1073741824
  | _ => False
theorem map_rowsI (o : List Int) : (rowsI o).map (fun r => r.getD 0 0) = o := by
  unfold rowsI
  rw [List.map_map]
  exact (List.map_congr_left fun x _ => rfl).trans (List.map_id o)
theorem sK_ssort {sp : Spec} {key : Nat} (hF : sp.F key = sF_ssort) (hP : sp.pre key = sQ_ssort) : SmOk Try.prog sp (sM_ssort key) := by
  refine SmOk.of_in (ks := [some .i64]) (ty := 3) rfl fun L hpre => ?_
  have hpre' : sp.pre key [.l L] := hpre
  rw [hP] at hpre'
  obtain ⟨hR, hlt0⟩ : RowsIn [some .i64] L ∧ L.length < 1073741824 := hpre'
  obtain ⟨o, rfl, ho⟩ := rowsI_of hR
  have hlen : o.length ≤ maxLen := by have := hR.len; rwa [rowsI_len] at this
  rw [rowsI_len] at hlt0
  refine ⟨rowsI (srt o), ?_, rowsI_in (fun x hx => ho x (srt_mem.1 hx)) (by rw [srt_len]; exact hlen), fun base sv w hor => ⟨run_enter Try.func69 (by kernel_rfl) (by kernel_rfl) _ w, ?_⟩⟩
  · show sp.F key _ = _
    rw [hF]
    show [Dt.l (rowsI (srt ((rowsI o).map fun r => r.getD 0 0)))] = _
    rw [map_rowsI]
  obtain ⟨h1, h2, h3, h4⟩ := hor
  rw [flat_rowsI] at h2
  rw [rowsI_len] at h1
  obtain ⟨hl, hc⟩ := h2
  rcases hc with ⟨hv, h0⟩ | ⟨g, cap, cur, hv, hb, hh, hnc, hcm, hcs, htake⟩
  · have e0 : o = [] := List.length_eq_zero_iff.1 (by omega)
    subst e0
    rw [hv]
    refine (Any.slices_Sort_int_none laysSort none 0 w).mono ?_
    rintro e w' ⟨rfl, rfl⟩
    have es : srt [] = [] := List.mergeSort_nil
    rw [es]
    exact ⟨rfl, ⟨h1, ⟨by rw [h0]; rfl, .inl ⟨hv, h0⟩⟩, h3, h4⟩, rfl, rfl, rfl, Nat.le_refl _, fun _ _ _ => rfl⟩
  · have hn : sv.n = o.length := h1
    have hcell : ∀ j, j < o.length → cur[j]? = some (Value.int .i64 o[j]!) := fun j hj => by
      have e1 := congrArg (fun z => z[j]?) htake
      rw [hn] at e1
      simp only [List.getElem?_take, List.getElem?_map, List.getElem?_eq_getElem hj, Option.map_some, Array.getElem?_toList] at e1
      have hj2 : j < o.length * [some IntKind.i64].length := by simpa using hj
      rw [if_pos hj2] at e1
      rw [e1, getElem!_pos o j hj]
    have hlt : g < w.heap.size := by
      rcases Nat.lt_or_ge g w.heap.size with h | h
      · exact h
      · rw [Array.getElem?_eq_none h] at hh; cases hh
    have hH : Go.Sort.Holds (Value.int .i64) w g 0 o.toArray := fun j hj => by
      have hj' : j < o.length := by simpa using hj
      refine ⟨?_, by simp [World.frozen?, hh]⟩
      have e2 : w.cell? ⟨g, 0 + j, none⟩ = cur[j]? := by simp [World.cell?, hh]
      rw [e2, hcell j hj', getElem!_pos o j hj', getElem!_pos o.toArray j hj]
      simp
    have hcall := Any.slices_Sort_int laysSort g 0 cap o w hH hlt (by omega)
    rw [hv, hn]
    refine hcall.mono ?_
    rintro e w' ⟨rfl, k, os, hw⟩
    change w' = Go.Sort.grow (Go.Sort.putRow (Value.int .i64) (Go.Sort.ahead w k) g 0 (srt o).toArray) os at hw
    subst hw
    have hblk : ∀ b, b < w.heap.size → (Go.Sort.grow (Go.Sort.putRow (Value.int .i64) (Go.Sort.ahead w k) g 0 (srt o).toArray) os).heap[b]? = if b = g then some (.cells (Go.Sort.putCells (Value.int .i64) 0 (srt o).toArray cur) 3 (0, 0)) else w.heap[b]? := fun b hb2 => by
      have e3 : (Go.Sort.grow (Go.Sort.putRow (Value.int .i64) (Go.Sort.ahead w k) g 0 (srt o).toArray) os).heap = (w.heap.modify g (Go.Sort.onCells (Go.Sort.putCells (Value.int .i64) 0 (srt o).toArray))) ++ os := rfl
      rw [e3, Array.getElem?_append_left (by simpa using hb2), Array.getElem?_modify]
      by_cases hbg : b = g
      · subst hbg
        rw [if_pos rfl, if_pos rfl, hh]; rfl
      · rw [if_neg (fun e => hbg e.symm), if_neg hbg]
    refine ⟨rfl, ⟨by rw [rowsI_len, srt_len]; exact hn, ⟨?_, .inr ⟨g, cap, Go.Sort.putCells (Value.int .i64) 0 (srt o).toArray cur, hv, hb, ?_, hnc, hcm, ?_, ?_⟩⟩, rowsI_in (fun x hx => ho x (srt_mem.1 hx)) (by rw [srt_len]; exact hlen), h4⟩, rfl, rfl, rfl, ?_, fun b hb2 hne => ?_⟩
    · rw [flat_rowsI, List.length_map, srt_len, hn]; simp
    · rw [hblk g hlt, if_pos rfl]
    · simp [Go.Sort.putCells, hcs]
    · rw [flat_rowsI]
      apply List.ext_getElem?
      intro j
      rw [List.getElem?_take, List.getElem?_map]
      by_cases hj : j < o.length
      · have hj2 : j < sv.n * [some IntKind.i64].length := by rw [hn]; simpa using hj
        have hjs : j < (srt o).length := by rw [srt_len]; exact hj
        rw [if_pos hj2, Array.getElem?_toList, Go.Sort.putCells, Array.getElem?_mapIdx, hcell j hj, List.getElem?_eq_getElem hjs]
        simp only [Option.map_some, List.size_toArray, Nat.zero_le, Nat.zero_add, hjs, and_self, if_true, Nat.sub_zero]
        rw [getElem!_pos (srt o).toArray j (by simpa using hjs)]
        simp
      · have hj2 : ¬ j < sv.n * [some IntKind.i64].length := by rw [hn]; simpa using hj
        rw [if_neg hj2, List.getElem?_eq_none (by rw [srt_len]; omega)]; rfl
    · show w.heap.size ≤ (w.heap.modify g _ ++ os).size
      simp
    · rw [hblk b hb2, if_neg]
      rintro rfl
      exact hne (by simp [Value.ownBlock])
end Go.Proofs.Ytmkaphfdgdkaoaa
