/- The walks of trace's comparisons of outcomes, and of its fuel. -/
import Derived.Test.YteheidiiigjglaaTrB
import Derived.Laws.BytesArg
namespace Go.Proofs.Yteheidiiigjglaa
open Go.RowKit

theorem SlI.str {P : Program} {w : World} {v : Value} {l : List Int} {src e dst : TypeId} (hs : P.underlying src = some (.slice e)) (he : P.underlying e = some (.int .u8)) (hd : P.underlying dst = some .string) (h : SlI .u8 w v l) :
    (convert src dst v).run P w = .ok (.string (strOfNums l)) w := by
  obtain ⟨oa, cap, rfl, hl, hm, hn, hc⟩ := h
  cases l with
  | nil =>
    cases oa with
    | none => exact run_convert_bytes_nil w src e hs he _ _ dst hd
    | some a =>
      have h0 : (loadCells a 0).run P w = .ok (([] : List Int).map (Value.int .u8)).toArray w := by
        simpa using run_loadCells_list (P := P) w a [] (fun j v hj => by simp at hj)
      rw [run_convert_bytes_string w src dst e _ _ cap hs he hd]
      exact run_bytesToString w a 0 cap [] h0
  | cons x r =>
    obtain ⟨b, off, rfl, hcell⟩ := hc (by simp)
    exact run_convert_bytes_arg w src e hs he b off _ cap (x :: r) rfl hcell dst hd
theorem str_inj {a b : List Int} (ha : ∀ x ∈ a, 0 ≤ x ∧ x ≤ 255) (hb : ∀ x ∈ b, 0 ≤ x ∧ x ≤ 255) (h : strOfNums a = strOfNums b) : a = b := by
  have h1 : a.map (fun n => UInt8.ofNat n.toNat) = b.map (fun n => UInt8.ofNat n.toNat) := by
    have := congrArg (fun s : ByteArray => s.data.toList) h
    simpa [strOfNums] using this
  clear h
  induction a generalizing b with
  | nil => cases b with
    | nil => rfl
    | cons y s => simp at h1
  | cons x r ih => cases b with
    | nil => simp at h1
    | cons y s =>
      simp only [List.map_cons, List.cons.injEq] at h1
      have hx := ha x (by simp)
      have hy := hb y (by simp)
      have e : x.toNat = y.toNat := by
        have := congrArg UInt8.toNat h1.1
        simp at this
        omega
      rw [show x = y from by omega, ih (fun z hz => ha z (by simp [hz])) (fun z hz => hb z (by simp [hz])) h1.2]
theorem str_eq {a b : List Int} (ha : ∀ x ∈ a, 0 ≤ x ∧ x ≤ 255) (hb : ∀ x ∈ b, 0 ≤ x ∧ x ≤ 255) : (strOfNums a = strOfNums b) ↔ a = b := ⟨str_inj ha hb, fun h => by rw [h]⟩

theorem str_beq {a b : List Int} (ha : ∀ x ∈ a, 0 ≤ x ∧ x ≤ 255) (hb : ∀ x ∈ b, 0 ≤ x ∧ x ≤ 255) : ((strOfNums a).toList == (strOfNums b).toList) = decide (a = b) := by
  rw [Bool.eq_iff_iff, beq_iff_eq, decide_eq_true_iff, ← str_eq ha hb, ByteArray.toList_eq, ByteArray.toList_eq]
  constructor
  · intro h
    have : (strOfNums a).data = (strOfNums b).data := by
      rcases ha1 : (strOfNums a).data with ⟨x⟩
      rcases hb1 : (strOfNums b).data with ⟨y⟩
      rw [ha1, hb1] at h
      simpa using h
    cases h1 : strOfNums a; cases h2 : strOfNums b
    rw [h1, h2] at this
    simpa using this
  · intro h; rw [h]

set_option maxHeartbeats 1000000 in
theorem contexts_any (b1 b2 : Nat) (v1 v2 : Value) (a b : List Int) (w : World) (h1 : w.cell? ⟨b1, 2, none⟩ = some v1) (h2 : w.cell? ⟨b2, 2, none⟩ = some v2) (ha : SlI .u8 w v1 a) (hb : SlI .u8 w v2 b)
    (ka : ∀ x ∈ a, 0 ≤ x ∧ x ≤ 255) (kb : ∀ x ∈ b, 0 ≤ x ∧ x ≤ 255) :
    Calls Try.prog 48 #[.pointer (some ⟨b1, 0, none⟩), .pointer (some ⟨b2, 0, none⟩)] w fun e w' => e = .returned (.bool (decide (a = b))) ∧ Ext w w' := by
  have s1 : ∀ n, (convert 29 9 v1).run Try.prog (w.drewN n) = .ok (.string (strOfNums a)) (w.drewN n) := fun n => (ha.ext ((Ext.refl w).drewN n)).str Try.underlying29 Try.underlying5 Try.underlying9
  have s2 : ∀ n, (convert 29 9 v2).run Try.prog (w.drewN n) = .ok (.string (strOfNums b)) (w.drewN n) := fun n => (hb.ext ((Ext.refl w).drewN n)).str Try.underlying29 Try.underlying5 Try.underlying9
  have HE := hide (str_beq ka kb)
  have HL1 := hide ha
  obtain ⟨oa, ca, rfl, _⟩ := ha
  obtain ⟨ob, cb, rfl, _⟩ := hb
  clear ka kb
  go_enter Try.func48, Try.ntmps48
  go_wp2_with fail
  go_quiet (fail)
  go_wp2_with fail
  go_ret
  exact ⟨ret_bool HE.out, (Ext.refl _).drewN _⟩

set_option maxHeartbeats 1000000 in
theorem Begins_any (sa sb : Value) (a b : List Ev) (w : World) (ha : SlE w sa a) (hb : SlE w sb b) :
    Calls Try.prog 17 #[sa, sb] w fun e w' => e = .returned (.bool (pre a b)) ∧ Ext w w' := by
  go_enter Try.func17, Try.ntmps17
  go_wp2_with (go_at_call 46; refine (beginsE_any _ _ a b w ha hb).mono ?_; rintro e w' ⟨rfl, hx'⟩)
  go_ret
  exact ⟨rfl, hx'⟩

set_option maxHeartbeats 1000000 in
theorem traces_any (b1 b2 : Nat) (v1 v2 : Value) (a b : List Ev) (w : World) (h1 : w.cell? ⟨b1, 3, none⟩ = some v1) (h2 : w.cell? ⟨b2, 3, none⟩ = some v2) (ha : SlE w v1 a) (hb : SlE w v2 b) :
    Calls Try.prog 49 #[.pointer (some ⟨b1, 0, none⟩), .pointer (some ⟨b2, 0, none⟩)] w fun e w' => e = .returned (.bool (decide (a = b))) ∧ Ext w w' := by
  rw [← pre_same]
  have HA := hide ha
  have HB := hide hb
  obtain ⟨oa, ca, rfl, la, ma, na, _⟩ := ha
  obtain ⟨ob, cb, rfl, lb, mb, nb, _⟩ := hb
  have la' : a.length ≤ 9223372036854775807 := by unfold maxLen at ma; omega
  have lb' : b.length ≤ 9223372036854775807 := by unfold maxLen at mb; omega
  clear la lb ma mb na nb
  by_cases g : a.length = b.length
  · have b3 : ((a.length : Int) == (b.length : Int)) = true := by simp [g]
    have b4 : (a.length == b.length) = true := by simp [g]
    have fin : (decide (a.length = b.length) && pre a b) = pre a b := by simp [g]
    rw [fin]
    clear g fin
    go_enter Try.func49, Try.ntmps49
    go_wp2_with fail
    go_region_held3 (fun w' => Ext w w' ∧ w'.cell? ⟨b1, 3, none⟩ = some (.slice oa a.length ca) ∧ w'.cell? ⟨b2, 3, none⟩ = some (.slice ob b.length cb))
      (first | exact ⟨Ext.refl _, h1, h2⟩ | exact ⟨(Ext.refl _).drew, h1, h2⟩ | assumption | exact ⟨((Ext.refl _).drew).trans hx', hx'.cell h1, hx'.cell h2⟩ | go_keep)
      (first | (go_at_call 17; refine (Begins_any _ _ a b _ (HA.out.ext ((Ext.refl _).drew)) (HB.out.ext ((Ext.refl _).drew))).mono ?_; rintro e w' ⟨rfl, hx'⟩))
    go_wp2_with fail
    go_ret
    exact ⟨rfl, ((Ext.refl _).drew).trans hx'⟩
  · have b3 : ((a.length : Int) == (b.length : Int)) = false := by rw [beq_eq_false_iff_ne]; omega
    have b4 : (a.length == b.length) = false := by rw [beq_eq_false_iff_ne]; omega
    have fin : (decide (a.length = b.length) && pre a b) = false := by simp [g]
    rw [fin]
    clear g fin
    go_enter Try.func49, Try.ntmps49
    go_wp2_with fail
    go_quiet (fail)
    go_wp2_with fail
    go_ret
    exact ⟨rfl, (Ext.refl _).drewN _⟩

def zfuel (n : Int) : Int := 64 * min (max n 0) 10000 + 64
set_option maxHeartbeats 1000000 in
theorem fuel_any (n : Int) (w : World) :
    Calls Try.prog 19 #[.int .i64 n] w fun e w' => e = .returned (.int .i64 (zfuel n)) ∧ w = w' := by
  have hc : n < 0 ∨ (0 ≤ n ∧ n ≤ 10000) ∨ 10000 < n := by omega
  rcases hc with h | ⟨h, h'⟩ | h
  all_goals
    go_enter Try.func19, Try.ntmps19
    go_wp2_with fail
    go_ret
    refine ⟨ret_int ?_, rfl⟩
    unfold zfuel
    omega
end Go.Proofs.Yteheidiiigjglaa
