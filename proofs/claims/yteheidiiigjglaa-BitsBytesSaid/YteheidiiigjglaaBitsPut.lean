/- The walks of bits.Put and bits.Get, and the plain laws of a number's bytes. -/
import Derived.Test.YteheidiiigjglaaBitsW
import Derived.Test.YteheidiiigjglaaSl
import Derived.Deep.AppendLies
namespace Go.Proofs.Yteheidiiigjglaa
open Go.RowKit

def zput (v : Int) : Nat → List Int
  | 0 => []
  | k + 1 => v % 256 :: zput (v / 256) k
def zle : List Int → Int
  | [] => 0
  | b :: r => b + 256 * zle r
theorem pow_nn' (k : Nat) : (0 : Int) < 256 ^ k := Int.pow_pos (by omega)
theorem zput_len (v : Int) (k : Nat) : (zput v k).length = k := by
  induction k generalizing v with
  | zero => rfl
  | succ k ih => simp [zput, ih]
theorem zput_snoc (v : Int) (k : Nat) : zput v (k + 1) = zput v k ++ [v / 256 ^ k % 256] := by
  induction k generalizing v with
  | zero => simp [zput]
  | succ k ih =>
    rw [zput, ih (v / 256)]
    rw [show zput v (k + 1) = v % 256 :: zput (v / 256) k from rfl]
    have : v / 256 / 256 ^ k = v / 256 ^ (k + 1) := by
      rw [Int.ediv_ediv_of_nonneg (by omega), Int.pow_succ, Int.mul_comm]
    rw [this]; rfl
theorem zput_bd (v : Int) (k : Nat) : ∀ x ∈ zput v k, 0 ≤ x ∧ x ≤ 255 := by
  induction k generalizing v with
  | zero => simp [zput]
  | succ k ih =>
    intro x hx
    rcases List.mem_cons.1 hx with rfl | hx
    · omega
    · exact ih _ x hx
theorem emod_mul' (v b : Int) (h : 0 ≤ v) (hb : 0 ≤ b) : v % (256 * b) = v % 256 + 256 * (v / 256 % b) := by
  obtain ⟨n, rfl⟩ := Int.eq_ofNat_of_zero_le h
  obtain ⟨m, rfl⟩ := Int.eq_ofNat_of_zero_le hb
  have := congrArg (fun x : Nat => (x : Int)) (Nat.mod_mul (x := n) (a := 256) (b := m))
  simpa using this
theorem zle_put (v : Int) (k : Nat) (h : 0 ≤ v) : zle (zput v k) = v % 256 ^ k := by
  induction k generalizing v with
  | zero => simp [zput, zle]
  | succ k ih =>
    rw [zput, zle, ih _ (by omega)]
    rw [Int.pow_succ, Int.mul_comm (256 ^ k) 256, emod_mul' v _ h (Int.le_of_lt (Int.pow_pos (by omega)))]
theorem zput_le (l : List Int) (h : ∀ x ∈ l, 0 ≤ x ∧ x ≤ 255) : zput (zle l) l.length = l := by
  induction l with
  | nil => rfl
  | cons b r ih =>
    have hb := h b (by simp)
    rw [List.length_cons, zput, zle]
    have e1 : (b + 256 * zle r) % 256 = b := by omega
    have e2 : (b + 256 * zle r) / 256 = zle r := by omega
    rw [e1, e2, ih (fun x hx => h x (by simp [hx]))]
theorem zle_bd (l : List Int) (h : ∀ x ∈ l, 0 ≤ x ∧ x ≤ 255) : 0 ≤ zle l ∧ zle l < 256 ^ l.length := by
  induction l with
  | nil => simp [zle]
  | cons b r ih =>
    have hb := h b (by simp)
    have ih := ih (fun x hx => h x (by simp [hx]))
    rw [zle, List.length_cons, Int.pow_succ]
    omega
theorem or_join (v b : Int) (h0 : 0 ≤ v) (h1 : v < 72057594037927936) (h2 : 0 ≤ b) (h3 : b ≤ 255) : bits .or .u64 (v * 256) b = v * 256 + b := by
  obtain ⟨n, rfl⟩ := Int.eq_ofNat_of_zero_le h0
  obtain ⟨m, rfl⟩ := Int.eq_ofNat_of_zero_le h2
  rw [show ((n : Int) * 256) = ((n * 256 : Nat) : Int) from by simp, u64_or_nat _ _ (by omega) (by omega), nat_join 8 (n * 256) m (by omega) (by omega)]
  simp

theorem info_u8 : (Try.prog.info? 5).map (fun i => (i.zero, i.size, i.bytes)) = some (some (.int .u8 0), 1, 1) := by kernel_rfl

def PutPost (W : World) (v : Int) (k : Nat) (e : Ending) (w' : World) : Prop := ∃ x, e = .returned x ∧ SlI .u8 w' x (zput v k) ∧ Ext W w'
def cnt (n : Int) : Nat := (min (max n 0) 8).toNat

theorem put_step (v : Int) (k : Nat) : v / 256 ^ k / 256 = v / 256 ^ (k + 1) := by
  rw [Int.pow_succ, Int.ediv_ediv_of_nonneg (Int.le_of_lt (Int.pow_pos (by omega)))]

set_option maxHeartbeats 1000000 in
theorem put_any (v n : Int) (w : World) (h0 : 0 ≤ v) (h1 : v ≤ 18446744073709551615) :
    Calls Try.prog 34 #[.int .u64 v, .int .i64 n] w (PutPost w v (cnt n)) := by
  obtain ⟨i0, hi, hz0, hz1, hz2⟩ := info_parts info_u8
  obtain ⟨m, hm⟩ : ∃ m : Nat, m = cnt n := ⟨_, rfl⟩
  have hm8 : m ≤ 8 := by rw [hm]; unfold cnt; omega
  have hc : (n < 0 ∧ m ≤ 0) ∨ (0 ≤ n ∧ n ≤ 8 ∧ n ≤ (m : Int) ∧ (m : Int) ≤ n) ∨ (8 < n ∧ 8 ≤ m) := by rw [hm]; unfold cnt; omega
  rw [← hm]
  clear hm
  have HI := hide hi
  have HZ0 := hide hz0
  have HZ1 := hide hz1
  have HZ2 := hide hz2
  clear hi hz0 hz1 hz2
  rcases hc with ⟨g1, g2⟩ | ⟨g1, g2, g3, g4⟩ | ⟨g1, g2⟩
  all_goals
    go_enter Try.func34, Try.ntmps34
    go_wp2_with fail
    go_loopw [0, 5, 9] (fun a b i wr => ∃ k : Nat, i = .int .i64 k ∧ a = .int .u64 (v / 256 ^ k) ∧ wr.ownsRow w.heap.size 5 1 b k ((zput v k).map (Value.int .u8)) ∧ Ext w wr ∧ k ≤ m) (fun _ _ i _ => 8 - (intOf i).toNat)
    case atStart => exact ⟨0, rfl, by simp, World.ownsRow_nil _ _ _ _, Ext.refl _, by omega⟩
    case round =>
      obtain ⟨k, rfl, rfl, hown, hxr, hk⟩ := hrel
      by_cases hlt : k < m
      · first
        | (exfalso; omega; done)
        | (have hp := pow_nn' k
           have d0 : 0 ≤ v / 256 ^ k := Int.ediv_nonneg h0 (Int.le_of_lt hp)
           have d1 : v / 256 ^ k ≤ v := Int.ediv_le_self _ h0
           clear hp
           go_wp2_with (at_builtin; (refine wpList_append_own _ rfl _ _ 29 rfl w.heap.size 5 i0 (.int .u8 0) 1 1 Try.underlying29 HI.out HZ0.out HZ1.out HZ2.out rfl (by decide) _ _ _ rfl (hown.alloc _) ⟨wr.heap.size, 0, none⟩ 1 1 [.int .u8 (v / 256 ^ k % 256)] rfl rfl (World.news_of_block (cs := #[.int .u8 (v / 256 ^ k % 256)]) (t := 5) (fr := (0, 0)) (heap_alloc_new wr _)) (by simp [Value.oneCell']) (by unfold maxLen; omega) (by omega) (Nat.le_trans hxr.size (by simp)) ?_); intro v' w1 hown1 hgrow _)
           go_roundw
           case rel =>
             refine ⟨k + 1, by go_num, by rw [put_step], ?_, ?_, by omega⟩
             · rw [zput_snoc, List.map_append]; exact hown1
             · exact (hxr.alloc _).grown hgrow (fun q hq => (hown.lt q hq).1)
           case measure => simp [intOf]; omega)
      · go_wp2_with fail
        go_ret
        refine ⟨_, rfl, ?_, hxr⟩
        obtain rfl : k = m := by omega
        have := SlI.of_own (k := .u8) (l := zput v k) (by rw [zput_len]; exact hown)
        exact this

theorem pow_le7 (L : Nat) (h : L ≤ 7) : (256 : Int) ^ L ≤ 72057594037927936 := by
  match L, h with
  | 0, _ | 1, _ | 2, _ | 3, _ | 4, _ | 5, _ | 6, _ | 7, _ => decide
theorem zle_snoc (b : Int) (r : List Int) : zle (b :: r) = zle r * 256 + b := by rw [zle]; omega

set_option maxHeartbeats 1000000 in
theorem get_any (l : List Int) (sv : Value) (w : World) (h : SlI .u8 w sv l) (hb : ∀ x ∈ l, 0 ≤ x ∧ x ≤ 255) :
    Calls Try.prog 35 #[sv] w fun e w' => e = .returned (.int .u64 (zle (l.take 8))) ∧ w = w' := by
  obtain ⟨oa, cap, rfl, hl, hm, hn, hcell⟩ := h
  obtain ⟨m, hmm⟩ : ∃ m : Nat, m = min l.length 8 := ⟨_, rfl⟩
  have hm8 : m ≤ 8 := by omega
  have hml : m ≤ l.length := by omega
  have hlen : l.length ≤ 9223372036854775807 := by unfold maxLen at hm; omega
  have ht : (l.take 8) = l.take m := by
    rw [hmm]
    by_cases h8 : l.length ≤ 8
    · rw [List.take_of_length_le h8, List.take_of_length_le (by omega)]
    · rw [Nat.min_eq_right (by omega)]
  rw [ht]
  have hc : ((l.length : Int) ≤ 8 ∧ (l.length : Int) ≤ m ∧ (m : Int) ≤ l.length) ∨ (8 < (l.length : Int) ∧ 8 ≤ m) := by omega
  clear hmm ht hn hl hm
  have HC := hide hcell
  clear hcell
  have HB := hide hb
  clear hb
  rcases hc with ⟨g1, g2, g3⟩ | ⟨g1, g2⟩
  all_goals
    go_enter Try.func35, Try.ntmps35
    go_wp2_with fail
    go_loop [3, 4] (fun v i => ∃ k : Nat, k ≤ m ∧ i = .int .i64 ((k : Int) - 1) ∧ v = .int .u64 (zle ((l.take m).drop k))) (fun _ i => (intOf i + 1).toNat)
    case atStart => exact ⟨m, Nat.le_refl _, by first | (rw [show (m : Int) = (l.length : Int) from by omega]) | (rw [show (m : Int) = 8 from by omega]; rfl), by rw [List.drop_eq_nil_of_le (by simp; omega)]; rfl⟩
    case round =>
      obtain ⟨k, hk, rfl, rfl⟩ := hrel
      match k, hk with
      | 0, _ =>
        go_wp2_with fail
        go_ret
        exact ⟨by simp, rfl⟩
      | j + 1, hk =>
        have hj : j < l.length := by omega
        obtain ⟨b, off, rfl, hcell⟩ := HC.out (by omega)
        have hcj := hcell j hj
        clear hcell
        have hbs : ∀ x ∈ (l.take m).drop (j + 1), 0 ≤ x ∧ x ≤ 255 := fun x hx => HB.out x (List.mem_of_mem_take (List.mem_of_mem_drop hx))
        have hz := zle_bd _ hbs
        have hlen2 : ((l.take m).drop (j + 1)).length ≤ 7 := by simp; omega
        have hpow := pow_le7 _ hlen2
        have hx : 0 ≤ l.getD j 0 ∧ l.getD j 0 ≤ 255 := HB.out _ (by rw [List.getD, List.getElem?_eq_getElem hj]; exact List.getElem_mem hj)
        have hstep : zle ((l.take m).drop j) = zle ((l.take m).drop (j + 1)) * 256 + l.getD j 0 := by
          rw [List.drop_eq_getElem_cons (by simp; omega), zle_snoc]
          simp [List.getD, hj]
        obtain ⟨V, hV⟩ : ∃ V, V = zle ((l.take m).drop (j + 1)) := ⟨_, rfl⟩
        rw [← hV] at hz hstep ⊢
        obtain ⟨X, hX⟩ : ∃ X, X = l.getD j 0 := ⟨_, rfl⟩
        rw [← hX] at hx hstep hcj
        obtain ⟨hz0, hz1⟩ := hz
        obtain ⟨hx0, hx1⟩ := hx
        have hz2 : V < 72057594037927936 := Int.lt_of_lt_of_le hz1 hpow
        have hor := or_join V X hz0 hz2 hx0 hx1
        have HS := hide hstep
        have HJ := hide hj
        have HK := hide hk
        clear hstep hV hX hz1 hpow hlen2 hbs
        rw [show ((j + 1 : Nat) : Int) - 1 = (j : Int) from by omega]
        go_wp2_with fail
        go_round
        case rel => exact ⟨j, by have := HK.out; omega, rfl, by rw [HS.out]⟩
        case measure => simp [intOf]
end Go.Proofs.Yteheidiiigjglaa
