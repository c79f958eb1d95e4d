import Derived.Test.YtghiofgomcihcaaMoD
set_option linter.unusedSimpArgs false
set_option linter.unusedVariables false
set_option linter.unusedVariables false
set_option linter.unusedSimpArgs false
namespace Go.Proofs.Ytghiofgomcihcaa
open Go Go.RowKit
def bitI (z : Int) (r : Nat) : Int := opI .and .i64 (opI .shr .i64 z (r : Int)) 1
theorem opI_and (x y : Int) : opI .and .i64 x y = (bvI x &&& bvI y).toInt := wrapBV _
theorem bitI_eq {z : Int} (h : inK .i64 z = true) {r : Nat} (hr : r < 11) : bitI z r = if (bvI z).getLsbD r = true then 1 else 0 := by
 have hz := bvI_in h
 unfold bitI
 have hs : opI .shr .i64 z (r : Int) = ((bvI z).sshiftRight r).toInt := by
  show z.fdiv (2 ^ min (r : Int).toNat 64) = _
  rw [Int.toNat_natCast, Nat.min_eq_left (by omega), Int.fdiv_eq_ediv_of_nonneg _ (Int.pow_nonneg (by decide)), BitVec.toInt_sshiftRight, hz, Int.shiftRight_eq_div_pow]
  congr 1
 rw [hs, opI_and, bvI_toInt]
 have e2 : ((bvI z).sshiftRight r &&& bvI 1) = if (bvI z).getLsbD r = true then 1#64 else 0#64 := by
  refine BitVec.eq_of_getLsbD_eq fun k hk => ?_
  rw [BitVec.getLsbD_and, BitVec.getLsbD_sshiftRight]
  by_cases h0 : k = 0
  ·subst h0
   have : (bvI 1).getLsbD 0 = true := by decide
   rw [this]
   by_cases hb : (bvI z).getLsbD r = true
   ·rw [if_pos hb]; simp [hb]; omega
   ·rw [if_neg hb]; simp at hb; simp [hb]; omega
  ·have h1 : (bvI 1).getLsbD k = false := by
    show (1#64).getLsbD k = false
    simp [h0]
   rw [h1, Bool.and_false]
   split <;> simp [h0]
 rw [e2]
 split <;> rfl
theorem bitI_same {z w : Int} (hz : inK .i64 z = true) (hw : inK .i64 w = true) {r : Nat} (hr : r < 11) (h : (bvI z).getLsbD r = (bvI w).getLsbD r) : bitI z r = bitI w r := by
 rw [bitI_eq hz hr, bitI_eq hw hr, h]
def wrK (x : Ins) : Int := if x.k = 0 ∨ x.k = 1 then opI .shl .i64 1 x.d else if x.k = 5 then 63 else 0
theorem bit1_at : ∀ d : Fin 11, ∀ r : Fin 11, (bvI (bit1 ((d : Nat) : Int))).getLsbD r = decide ((r : Nat) = d) := by decide
theorem bit1_lsb {d : Int} (h0 : 0 ≤ d) (h1 : d ≤ 10) {r : Nat} (hr : r < 11) : (bvI (bit1 d)).getLsbD r = decide ((r : Int) = d) := by
 obtain ⟨n, rfl⟩ := Int.eq_ofNat_of_zero_le h0
 have := bit1_at ⟨n, by omega⟩ ⟨r, hr⟩
 rw [this]
 exact decide_eq_decide.2 (by show r = n ↔ ((r : Nat) : Int) = (n : Int); omega)
theorem low_at : ∀ r : Fin 11, 6 ≤ (r : Nat) → (bvI 1).getLsbD r = false ∧ (bvI 2).getLsbD r = false ∧ (bvI 4).getLsbD r = false ∧ (bvI 8).getLsbD r = false ∧ (bvI 16).getLsbD r = false ∧ (bvI 32).getLsbD r = false := by decide
theorem b63_at : ∀ r : Fin 11, (r : Nat) < 6 → bitI 63 r ≠ 0 := by decide
theorem inK_op (o : BinOp) (a b : Int) (ho : o = .or ∨ o = .andNot) : inK .i64 (opI o .i64 a b) = true := by
 rcases ho with rfl | rfl
 ·rw [opI_or]; exact inK_iff.2 ⟨BitVec.le_toInt _, by have := BitVec.toInt_lt (x := bvI a ||| bvI b); show _ ≤ (9223372036854775807 : Int); omega⟩
 ·rw [opI_andNot]; exact inK_iff.2 ⟨BitVec.le_toInt _, by have := BitVec.toInt_lt (x := bvI a &&& ~~~ bvI b); show _ ≤ (9223372036854775807 : Int); omega⟩
theorem stay_nxt {p : Prog} {m : Ms} (hm : imay (insAt p.l m.pc) = true) (hs : inK .i64 m.st = true) (hl : m.rg.length = 11) :
  inK .i64 (nxt p m).st = true ∧ (nxt p m).rg.length = 11 ∧ ∀ r : Nat, r < 11 → bitI (wrK (insAt p.l m.pc)) r = 0 → (nxt p m).rg.getD r 0 = m.rg.getD r 0 ∧ bitI (nxt p m).st r = bitI m.st r := by
 have hd := imay_d hm
 have hset : ∀ (v : Int), wrK (insAt p.l m.pc) = bit1 (insAt p.l m.pc).d → inK .i64 (m.set (insAt p.l m.pc).d v).st = true ∧ (m.set (insAt p.l m.pc).d v).rg.length = 11 ∧ ∀ r : Nat, r < 11 → bitI (wrK (insAt p.l m.pc)) r = 0 → (m.set (insAt p.l m.pc).d v).rg.getD r 0 = m.rg.getD r 0 ∧ bitI (m.set (insAt p.l m.pc).d v).st r = bitI m.st r := by
  intro v hw
  have hi : inK .i64 (opI .or .i64 m.st (bit1 (insAt p.l m.pc).d)) = true := inK_op _ _ _ (.inl rfl)
  refine ⟨hi, by show (m.rg.set _ _).length = 11; rw [List.length_set]; exact hl, fun r hr h0 => ?_⟩
  have hne : ¬ (r : Int) = (insAt p.l m.pc).d := fun he => by
   rw [hw, bitI_eq (by unfold bit1; exact inK_wrap _ _) hr, bit1_lsb hd.1 hd.2.1 hr, if_pos (decide_eq_true he)] at h0
   cases h0
  refine ⟨?_, bitI_same hi hs hr ?_⟩
  ·show (m.rg.set (insAt p.l m.pc).d.toNat v).getD r 0 = _
   rw [List.getD_eq_getElem?_getD, List.getD_eq_getElem?_getD, List.getElem?_set_ne (by omega)]
  ·rw [opI_or, bvI_toInt, BitVec.getLsbD_or, bit1_lsb hd.1 hd.2.1 hr, decide_eq_false hne, Bool.or_false]
 unfold nxt bodyX
 by_cases h0 : (insAt p.l m.pc).k = 0
 ·rw [if_pos h0]; exact hset _ (by unfold wrK; rw [if_pos (.inl h0)]; rfl)
 ·rw [if_neg h0]
  by_cases h1 : (insAt p.l m.pc).k = 1
  ·rw [if_pos h1]; exact hset _ (by unfold wrK; rw [if_pos (.inr h1)]; rfl)
  ·rw [if_neg h1]
   by_cases h2 : (insAt p.l m.pc).k = 2
   ·rw [if_pos h2]; exact ⟨hs, hl, fun r hr _ => ⟨rfl, rfl⟩⟩
   ·rw [if_neg h2]
    by_cases h5 : (insAt p.l m.pc).k = 5
    ·rw [if_pos h5]
     have hi : inK .i64 (clr5 m.st) = true := inK_op _ _ _ (.inr rfl)
     refine ⟨hi, by show (_ ++ m.rg.drop 6).length = 11; rw [List.length_append, List.length_drop, hl]; rfl, fun r hr hz => ?_⟩
     have hw : wrK (insAt p.l m.pc) = 63 := by unfold wrK; rw [if_neg (by omega), if_pos h5]
     have h6 : 6 ≤ r := by
      rcases Nat.lt_or_ge r 6 with h | h
      ·exact absurd (hw ▸ hz) (b63_at ⟨r, hr⟩ h)
      ·exact h
     obtain ⟨a1, a2, a3, a4, a5, a6⟩ := low_at ⟨r, hr⟩ h6
     refine ⟨?_, bitI_same hi hs hr ?_⟩
     ·show (([gt m.an 0 0, 0, 0, 0, 0, 0] : List Int) ++ m.rg.drop 6).getD r 0 = _
      rw [List.getD_eq_getElem?_getD, List.getD_eq_getElem?_getD, List.getElem?_append_right h6, List.getElem?_drop]
      show m.rg[6 + (r - 6)]?.getD 0 = _
      rw [show 6 + (r - 6) = r by omega]
     ·unfold clr5
      simp only [opI_or, opI_andNot, bvI_toInt, BitVec.getLsbD_and, BitVec.getLsbD_or, BitVec.getLsbD_not]
      have a1 : (bvI 1).getLsbD r = false := a1
      have a2 : (bvI 2).getLsbD r = false := a2
      have a3 : (bvI 4).getLsbD r = false := a3
      have a4 : (bvI 8).getLsbD r = false := a4
      have a5 : (bvI 16).getLsbD r = false := a5
      have a6 : (bvI 32).getLsbD r = false := a6
      have a7 : r < 64 := by omega
      simp only [a1, a2, a3, a4, a5, a6, decide_eq_true a7, Bool.or_false, Bool.not_false, Bool.and_true, Bool.true_and]
    ·rw [if_neg h5]; exact ⟨hs, hl, fun r hr _ => ⟨rfl, rfl⟩⟩
structure SAt (p : Prog) (cx an : List (List Int)) (fu left last : Int) (m : Ms) (wr : List Int) (ws : Int) (fr wf : List Dt) : Prop where
 run : RunAt p cx an fu left m
 st : inK .i64 m.st = true
 rl : m.rg.length = 11
 lst : last < (p.l.length : Int)
 sty : 0 ≤ last → (∀ r : Nat, r < 11 → bitI (wrK (insAt p.l last)) r = 0 → m.rg.getD r 0 = wr.getD r 0 ∧ bitI m.st r = bitI ws r) ∧ ((insAt p.l last).k ≠ 2 → fr = wf)
theorem SAt.init {p : Prog} {cx an : List (List Int)} {fu : Int} (h0 : 0 ≤ fu) (hl : 1 ≤ p.l.length) (wr : List Int) (ws : Int) (fr wf : List Dt) : SAt p cx an fu fu (-1) (ms0 cx an) wr ws fr wf :=
 ⟨RunAt.init h0 hl, rfl, rfl, by omega, fun h => absurd h (by decide)⟩
theorem SAt.go {p : Prog} {cx an : List (List Int)} {fu left left' last : Int} {m m' : Ms} {wr : List Int} {ws : Int} {fr wf fr' wf' : List Dt} (h : SAt p cx an fu left last m wr ws fr wf) (hp : p.l.length ≤ maxLen) (hok : (icheck p).2 = 0) (hf : fu ≤ 10000) (hl : 0 < left) (hh : halt p m = 0) (hm : m' = nxt p m) (he : left' = opI .sub .i64 left 1) (hfr : (insAt p.l m.pc).k = 2 ∨ fr' = wf') :
  SAt p cx an fu left' m.pc m' m.rg m.st fr' wf' ∧ left'.toNat < left.toNat := by
 obtain ⟨g1, g2⟩ := h.run.go hp hok hf hl hh hm he
 obtain ⟨s1, s2, s3⟩ := stay_nxt (may_at hp hok h.run.pc0 h.run.pc1) h.st h.rl
 refine ⟨⟨g1, by rw [hm]; exact s1, by rw [hm]; exact s2, h.run.pc1, fun _ => ⟨by rw [hm]; exact s3, fun hk => ?_⟩⟩, g2⟩
 rcases hfr with h | h
 ·exact absurd h hk
 ·exact h
def msE (ds : List Dt) : Ms := ⟨[dI ds 1, dI ds 2, dI ds 3, dI ds 4, dI ds 5, dI ds 6, dI ds 7, dI ds 8, dI ds 9, dI ds 10, dI ds 11], dI ds 12, dI ds 77, dL ds 156, dL ds 157, dL ds 158, dL ds 159⟩
def SInv (p : Prog) (cx an : List (List Int)) (fu : Int) (ds : List Dt) : Prop := SAt p cx an fu (dI ds 0) (dI ds 155) (msE ds) [dI ds 79, dI ds 80, dI ds 81, dI ds 82, dI ds 83, dI ds 84, dI ds 85, dI ds 86, dI ds 87, dI ds 88, dI ds 89] (dI ds 90) ((ds.drop 13).take 64) ((ds.drop 91).take 64)
end Go.Proofs.Ytghiofgomcihcaa
