/- The walk of the law BitsBytes. -/
import Derived.Test.YteheidiiigjglaaBitsPut
namespace Go.Proofs.Yteheidiiigjglaa
open Go.RowKit

theorem cnt_le (n : Int) : cnt n ≤ 8 := by unfold cnt; omega
theorem cnt_len (l : List Int) : cnt (l.length : Int) = (l.take 8).length := by unfold cnt; simp; omega
theorem bytes_back (l : List Int) (h : ∀ x ∈ l, 0 ≤ x ∧ x ≤ 255) : zput (zle (l.take 8)) (cnt (l.length : Int)) = l.take 8 := by
  rw [cnt_len]; exact zput_le _ (fun x hx => h x (List.mem_of_mem_take hx))
theorem take_put (v : Int) (n : Int) (h : 0 ≤ v) : zle ((zput v (cnt n)).take 8) = v % 256 ^ cnt n := by
  rw [List.take_of_length_le (by rw [zput_len]; exact cnt_le n), zle_put v _ h]
theorem pow8 (k : Nat) : (256 : Int) ^ k = 2 ^ (8 * k) := by
  rw [Int.pow_mul]; rfl
theorem mod_all (v : Int) (h0 : 0 ≤ v) (h1 : v ≤ 18446744073709551615) : v % 256 ^ 8 = v := by
  rw [show (256 : Int) ^ 8 = 18446744073709551616 from by decide]; omega

theorem and0 (v : Int) (h0 : 0 ≤ v) (h1 : v ≤ 18446744073709551615) : bits .and .u64 v 0 = 0 := by
  have := andMask 0 (by omega) v h0 h1
  simpa using this
theorem want_mid (v n : Int) (h0 : 0 ≤ v) (h1 : v ≤ 18446744073709551615) (hn : 0 ≤ n) (hm : n < 8) :
    zle ((zput v (cnt n)).take 8) = bits .and .u64 v (IntKind.u64.wrap (IntKind.u64.wrap (2 ^ (8 * n).toNat) - 1)) := by
  obtain ⟨k, rfl⟩ := Int.eq_ofNat_of_zero_le hn
  have hk : cnt (k : Int) = k := by unfold cnt; omega
  have e : (8 * (k : Int)).toNat = 8 * k := by omega
  rw [take_put v _ h0, hk, pow8, e, ← andMask (8 * k) (by omega) v h0 h1]
  have hk8 : k < 8 := by omega
  congr 1
  match k, hk8 with
  | 0, _ | 1, _ | 2, _ | 3, _ | 4, _ | 5, _ | 6, _ | 7, _ => decide

set_option maxRecDepth 100000 in
set_option maxHeartbeats 4000000 in
theorem bytes_walk (a0 a1 : Int) (b : Value) (l : List Int) (W : World) (h0 : 0 ≤ a0) (h1 : a0 ≤ 18446744073709551615) (hs : SlI .u8 W b l) (hb : ∀ x ∈ l, 0 ≤ x ∧ x ≤ 255) :
    Calls Try.prog 11 #[.int .u64 a0, .int .i64 a1, b] W fun e W' => e = .returned (.bool true) ∧ Below W.heap.size W W' := by
  have hx := Ext.refl W
  have hc : (a1 < 0 ∧ cnt a1 ≤ 0) ∨ (0 ≤ a1 ∧ a1 < 8 ∧ (cnt a1 : Int) ≤ a1 ∧ a1 ≤ (cnt a1 : Int)) ∨ (a1 = 8 ∧ 8 ≤ cnt a1 ∧ cnt a1 ≤ 8) ∨ (8 < a1 ∧ 8 ≤ cnt a1 ∧ cnt a1 ≤ 8) := by unfold cnt; omega
  obtain ⟨oa, cap, rfl, hl, hm, hn, hcell⟩ := id hs
  have hlen : l.length ≤ 9223372036854775807 := by unfold maxLen at hm; omega
  obtain ⟨c, hcd⟩ : ∃ c, cnt a1 = c := ⟨_, rfl⟩
  rw [hcd] at hc
  have hzl := zput_len a0 c
  obtain ⟨T, hT⟩ : ∃ T, l.take 8 = T := ⟨_, rfl⟩
  have hTl : T.length ≤ 8 ∧ T.length ≤ l.length ∧ (l.length ≤ 8 → l.length ≤ T.length) ∧ (8 < l.length → 8 ≤ T.length) := by rw [← hT]; simp; omega
  obtain ⟨t1, t2, t3, t4⟩ := hTl
  have hTg : ∀ k, k < T.length → T.getD k 0 = l.getD k 0 := by
    intro k hk
    rw [← hT]
    simp [List.getD, List.getElem?_take, show k < 8 from by omega]
  have hzb : zput (zle T) (cnt (l.length : Int)) = T := by rw [← hT]; exact bytes_back l hb
  have hgb : 0 ≤ zle T ∧ zle T < 256 ^ T.length := zle_bd T (fun x hx => hb x (by rw [← hT] at hx; exact List.mem_of_mem_take hx))
  have hp8 : (256 : Int) ^ T.length ≤ 18446744073709551616 := by
    match T.length, t1 with
    | 0, _ | 1, _ | 2, _ | 3, _ | 4, _ | 5, _ | 6, _ | 7, _ | 8, _ => decide
  obtain ⟨q0, q1⟩ := hgb
  have q2 : zle T ≤ 18446744073709551615 := by omega
  have HZB := hide hzb
  have HTG := hide hTg
  have HS := hide hs
  have HB := hide hb
  have HC := hide hcell
  clear hs hb hcell hl hm hn hp8 q1 hzb hTg
  by_cases hg : l.length ≤ 40
  · have hE1 : a1 < 0 → zle ((zput a0 (cnt a1)).take 8) = bits .and .u64 a0 0 := by
      intro h; have e : cnt a1 = 0 := by unfold cnt; omega
      rw [take_put a0 _ h0, e, and0 a0 h0 h1]; simp
    have hE3 : 8 ≤ a1 → zle ((zput a0 (cnt a1)).take 8) = a0 := by
      intro h; have e : cnt a1 = 8 := by unfold cnt; omega
      rw [take_put a0 _ h0, e, mod_all a0 h0 h1]
    have hE2 := want_mid a0 a1 h0 h1
    rw [hcd] at hE1 hE2 hE3
    have HE2 := hide hE2
    clear hE2
    have HE1 := hide hE1
    have HE3 := hide hE3
    clear hE1 hE3
    have HCD := hide hcd
    clear hcd
    have hc : (a1 < 0 ∧ c = 0) ∨ (0 ≤ a1 ∧ a1 < 8 ∧ (c : Int) ≤ a1 ∧ a1 ≤ (c : Int)) ∨ (a1 = 8 ∧ 8 ≤ c ∧ c ≤ 8) ∨ (8 < a1 ∧ 8 ≤ c ∧ c ≤ 8) := by omega
    rcases hc with ⟨g1, rfl⟩ | ⟨g1, g2, g3, g4⟩ | ⟨rfl, g2, g3⟩ | ⟨g1, g2, g3⟩
    all_goals
      go_enter Try.func11, Try.ntmps11
      go_wp2_with (first
        | (go_at_call 34; (with_reducible refine (put_any a0 _ _ h0 h1).mono ?_); rintro e w' ⟨x, rfl, hsx, hx1⟩; rw [HCD.out] at hsx; have HX := hide hsx; obtain ⟨ob, capb, rfl, hlb, hmb, hnb, hcb⟩ := hsx; rw [hzl] at HX; clear hcb)
        | (go_at_call 35; (with_reducible refine (get_any l _ _ (HS.out.ext hx1) HB.out).mono ?_); rintro e w' ⟨rfl, rfl⟩)
        | (go_at_call 34; (with_reducible refine (put_any (zle T) _ _ q0 q2).mono ?_); rintro e w2 ⟨y, rfl, hsy, hx2⟩; rw [HZB.out] at hsy; have HY := hide hsy; obtain ⟨oc, capc, rfl, hlc, hmc, hnc, hcc⟩ := hsy; have HCC := hide hcc; clear hcc)
        | fail)
      go_loopw [11] (fun i wr => ∃ k : Nat, k ≤ T.length ∧ i = .int .i64 k ∧ Ext w2 wr) (fun i _ => T.length - (intOf i).toNat)
      case atStart => exact ⟨0, by omega, rfl, Ext.refl _⟩
      case round =>
        obtain ⟨k, hk, rfl, hxr⟩ := hrel
        by_cases hlt : k < T.length
        · obtain ⟨b1, off1, rfl, hc1⟩ := HC.out (by omega)
          obtain ⟨b2, off2, rfl, hc2⟩ := HCC.out (by omega)
          have d1 := (hx1.trans (hx2.trans hxr)).cell (hc1 k (by omega))
          have d2 := hxr.cell (hc2 k hlt)
          rw [HTG.out k hlt] at d2
          clear hc1 hc2
          have i1 : (k : Int) < (T.length : Int) := by omega
          have i2 : (k : Int) < (l.length : Int) := by omega
          go_wp2_with fail
          go_quiet (fail)
          go_wp2_with fail
          go_roundw
          case rel => exact ⟨k + 1, by omega, by go_num, hxr.drewN _⟩
          case measure => simp [intOf]; omega
        · first
            | have hE := HE1.out g1
            | have hE := HE2.out g1 g2
            | have hE := HE3.out (by omega)
          by_cases hl8 : l.length ≤ 8
          · have t5 := t3 hl8
            have hxw := hx1.trans (hx2.trans hxr)
            go_wp2_with (first
              | (go_at_call 35; (with_reducible refine (get_any (zput a0 _) _ _ (HX.out.ext (hx2.trans hxr)) (zput_bd _ _)).mono ?_); rintro e w' ⟨rfl, rfl⟩)
              | (go_at_call 32; refine (bwakes_any W _ hxw).mono ?_; rintro e w' ⟨rfl, hx'⟩)
              | fail)
            go_ret
            exact ⟨rfl, by assumption⟩
          · have t5 := t4 (by omega)
            have hxw := hx1.trans (hx2.trans hxr)
            go_wp2_with (first
              | (go_at_call 35; (with_reducible refine (get_any (zput a0 _) _ _ (HX.out.ext (hx2.trans hxr)) (zput_bd _ _)).mono ?_); rintro e w' ⟨rfl, rfl⟩)
              | (go_at_call 32; refine (bwakes_any W _ hxw).mono ?_; rintro e w' ⟨rfl, hx'⟩)
              | fail)
            go_ret
            exact ⟨rfl, by assumption⟩
  · have HCD := hide hcd
    clear hcd
    rcases hc with ⟨g1, g2⟩ | ⟨g1, g2, g3, g4⟩ | ⟨rfl, g2, g3⟩ | ⟨g1, g2, g3⟩
    all_goals
      go_enter Try.func11, Try.ntmps11
      go_wp2_with (first
        | (go_at_call 34; refine (put_any _ _ _ h0 h1).mono ?_; rintro e w' ⟨x, rfl, hsx, hx'⟩; rw [HCD.out] at hsx; obtain ⟨ob, capb, rfl, hlb, hmb, hnb, hcb⟩ := hsx; clear hcb)
        | (go_at_call 32; refine (bwakes_any W _ (by assumption)).mono ?_; rintro e w' ⟨rfl, hx'⟩)
        | fail)
      go_ret
      exact ⟨rfl, by assumption⟩

theorem law_BitsBytes {H : Type} {enc : TypeId × Value → H} {W : World} (a0 : Int) (w0 : (Lit.int .u64 a0).wf = true) (a1 : Int) (w1 : (Lit.int .i64 a1).wf = true) (v2 : Value) {r : Reach} {b0 : Nat} (k2 : Value.okWide Try.prog W r b0 29 v2)
    (d2 : DataW H) (p2 : List MemPlace) (h2 : DataW.Trod enc Try.prog W 0 (fun _ => true) true 29 v2 d2 p2) (_ : ∀ x ∈ p2, x.block < W.heap.size) :
    Calls Try.prog 11 #[.int .u64 a0, .int .i64 a1, v2] W fun e W' => e = .returned (.bool true) ∧ Below W.heap.size W W' := by
  obtain ⟨h0, h1⟩ := wf_u64 w0
  obtain ⟨l, hl, hw⟩ := SlI.of_arg Try.underlying29 Try.underlying5 (by kernel_rfl) k2 h2
  exact bytes_walk a0 a1 v2 l W h0 h1 hl (fun x hx => wf_u8 (hw x hx))
end Go.Proofs.Yteheidiiigjglaa
