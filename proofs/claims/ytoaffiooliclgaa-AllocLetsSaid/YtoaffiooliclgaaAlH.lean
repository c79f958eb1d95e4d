/- The walk of alloc.may: its homes, and whether one is among them. -/
import Derived.Test.YtoaffiooliclgaaAlI
import Derived.Deep.RegionHeld3
import Derived.Deep.RegionWith
set_option linter.unusedVariables false
set_option linter.unusedSimpArgs false
set_option linter.unusedVariables false
set_option linter.unusedSimpArgs false
namespace Go.Proofs.Ytoaffiooliclgaa
open Go.RowKit Go.ChangeShapes Go.WideShapes

def homeC : List Value := [.int .i8 3, .int .i8 9, .int .i8 6, .int .i8 7, .int .i8 8, .int .i8 10]
def homeN (o : Bool) : Nat := if o then 2 else 6
theorem homes_any (o : Bool) (w : World) :
    Calls Try.prog 17 #[.bool o] w fun e w' => ∃ g, e = .returned (.slice (some ⟨g, 0, none⟩) (homeN o) (homeN o)) ∧ Ext w w' ∧ w'.heap[g]? = some (.cells homeC.toArray 26 (0, 0)) := by
  cases o
  all_goals
    go_enter Try.func17, Try.ntmps17
    go_wp2_with fail
    go_ret
    exact ⟨w.heap.size, rfl, (Ext.refl w).alloc _, heap_alloc_new _ _⟩
theorem cont_any (o : Bool) (v : Int) (hv : inK .i8 v = true) (g : Nat) (w : World) (h : w.heap[g]? = some (.cells homeC.toArray 26 (0, 0))) :
    Calls Try.prog 26 #[.slice (some ⟨g, 0, none⟩) (homeN o) (homeN o), .int .i8 v] w fun e w' => e = .returned (.bool (aHas (homeR o) v)) ∧ Ext w w' := by
  have hb : g < w.heap.size := (Array.getElem?_eq_some_iff.1 h).1
  have hr : RowsIn [some .i8] (homeR o) := ⟨fun r hr => by cases o <;> revert r <;> decide, by cases o <;> decide⟩
  have hc := (sK_acont (sp := ⟨fun _ => sF_acont, fun _ => sQ_acont⟩) (key := 0) rfl rfl).calls rfl [.l (homeR o), .z v] [.slice (some ⟨g, 0, none⟩) (homeN o) (homeN o), .int .i8 v] w
    ⟨_, _, _, rfl, ⟨_, (⟨some ⟨g, 0, none⟩, homeN o, homeN o⟩ : SV), rfl, rfl, by cases o <;> rfl, ⟨by cases o <;> rfl, Nat.le_refl _, (by show homeN o ≤ maxLen; cases o <;> decide), fun e => (by cases e), fun a ha i u hu => by
      cases ha
      have hi : ([.int .i8 3, .int .i8 9, .int .i8 6, .int .i8 7, .int .i8 8, .int .i8 10] : List Value)[i]? = some u := by
        cases o
        · exact hu
        · have hlt := (List.getElem?_eq_some_iff.1 hu).1
          have hlt : i < 2 := hlt
          have : (flat [some .i8] (homeR true))[i]? = ([.int .i8 3, .int .i8 9, .int .i8 6, .int .i8 7, .int .i8 8, .int .i8 10] : List Value)[i]? := by
            match i, hlt with
            | 0, _ => rfl
            | 1, _ => rfl
          rw [← this]; exact hu
      have ha : (⟨g, 0, none⟩ : Addr).add i = ⟨g, i, none⟩ := by rw [add_none, Nat.zero_add]
      rw [ha]
      simp only [World.cell?, h]
      simpa [homeC] using hi⟩, hr, fun k hk => by
        have := blk_some hk
        simp only [SV.v, Value.ownBlock, Option.some.injEq] at this
        omega⟩, _, _, _, rfl, ⟨_, rfl, rfl, hv⟩, rfl, rfl⟩ (by
          show (homeR o).length ≤ maxLen
          cases o <;> decide)
  rcases hc with ⟨u, w', h1, _⟩ | ⟨_, h1⟩
  · rw [show sM_acont 0 = sM_acont 0 from rfl] at h1
    have h2 := run_enter Try.func26 (by kernel_rfl) (by kernel_rfl) #[.slice (some ⟨g, 0, none⟩) (homeN o) (homeN o), .int .i8 v] w
    rw [show (callFunc (sM_acont 0).f [.slice (some ⟨g, 0, none⟩) (homeN o) (homeN o), .int .i8 v].toArray).run Try.prog w = _ from h2] at h1
    cases h1
  · refine h1.mono fun e w' ⟨u, he, hr⟩ => ⟨?_, hr.ext⟩
    obtain ⟨svs, _, q, _⟩ := hr.svs
    have q2 := q ⟨fun _ => 0, fun _ => aHas (homeR o) v, fun _ => []⟩ 0 0 ⟨fun _ => none, fun id => svs[id]?, fun _ => none⟩ ⟨by simp [sF_acont, sV_acont, dB, dI], trivial⟩ (fun i u hi => by rw [Nat.zero_add]; exact hi)
    cases q2
    exact he
set_option maxHeartbeats 4000000 in
theorem may_any (k n : Int) (hn : inK .i8 n = true) (o : Bool) (w : World) :
    Calls Try.prog 21 #[.agg #[.int .i8 k, .int .i8 n], .bool o] w fun e w' => e = .returned (.bool (aMay1 k n o)) ∧ Ext w w' := by
  obtain ⟨B, hB⟩ : ∃ B : Obj, B = .cells #[.int .i8 k, .int .i8 n] 28 := ⟨_, rfl⟩
  have c0 : (w.alloc B).cell? ⟨w.heap.size, 0, none⟩ = some (.int .i8 k) := by rw [hB]; simp [go_sem]
  have c1 : (w.alloc B).cell? ⟨w.heap.size, 1, none⟩ = some (.int .i8 n) := by rw [hB]; simp [go_sem]
  have X := hide ((Ext.refl w).alloc B)
  unfold aMay1
  by_cases hk : k = 1
  · subst hk
    go_enter Try.func21, Try.ntmps21
    go_wp2_with fail
    rw [← hB]
    clear hB
    go_region_with (first | (go_at_call 17; refine (homes_any _ _).mono ?_; rintro e w' ⟨g, rfl, hx5, hm⟩; have d1 := hx5.cell c1) | (go_at_call 26; refine (cont_any _ _ hn _ _ (by assumption)).mono ?_; rintro e w2 ⟨rfl, hx8⟩) | fail)
    all_goals
      go_wp2_with fail
      go_ret
      exact ⟨rfl, X.out.drew.trans (hx5.trans hx8)⟩
  · have hg : (k == 1) = false := by simpa using hk
    go_enter Try.func21, Try.ntmps21
    go_wp2_with fail
    rw [← hB]
    clear hB
    go_quiet (fail)
    go_wp2_with fail
    go_ret
    exact ⟨by simp [hk], X.out.drewN _⟩
end Go.Proofs.Ytoaffiooliclgaa
