/- The symbolic run of a function's whole code, with calls in place, is sound. Nothing of the program is in here. -/
import Derived.Test.YtoaffiooliclgaaSyM3
set_option linter.unusedVariables false
set_option linter.unusedSimpArgs false
namespace Go.Proofs.Ytoaffiooliclgaa
open Go Go.RowKit

section
variable {P : Program} {sp : Spec} {ρ : Env} {G : Env → E → Prop} {I : Nat → List Dt → Prop} {cx : Cx} {cl : ClK} {n : Nat} {X : List Value} {W0 : World}

theorem head_nx {kw : Kw} {vks : List VK} {ρ ρ2 : Env} {I : Nat → List Dt → Prop} (h : Ag kw.vk.length ρ ρ2) : Nx kw (kw.head vks) ρ ρ2 I I := ⟨h, fun _ _ => rfl, by simp [Kw.head], by simp [Kw.head]⟩
theorem codeK_ok (hcl : CallOk P sp G cx cl) (hm : P.follows .mixedOrders = true) (hT : ∀ t i, (t, i) ∈ cx.ty → TIok P t i) (hS : ∀ s ∈ cx.sm, SmOk P sp s) (hkeys : ∀ s ∈ cx.sm, ∀ s' ∈ cx.sm, s.key = s'.key → s = s') (fuel : Nat) :
    ∀ (c : Code) (s : St) (kw : Kw) (k : Sig → St → Kw → Tr) (Q : Exit → Act → World → Prop) (ρ : Env) (I : Nat → List Dt → Prop) (j : J) (a : Act) (w : World), (codeK cl cx fuel c s kw k).holds sp G ρ I → Good sp cx.sm ρ kw → At cx ρ n X W0 s j a w →
      (∀ sg s' kw' ρ' I' j' a' w', (k sg s' kw').holds sp G ρ' I' → Good sp cx.sm ρ' kw' → Ag kw.vk.length ρ ρ' → (∀ m, m < kw.lv → I' m = I m) → kw.lv ≤ kw'.lv → kw.vk.length ≤ kw'.vk.length → At cx ρ' n X W0 s' j' a' w' → Q sg.exit' a' w') → c.wp P Q a w := by
  intro c
  induction c with
  | skip => intro s kw k Q ρ I j a w h hg hr hQ; exact wp_skip (hQ _ _ _ _ _ _ _ _ h hg (.refl _ _) (fun _ _ => rfl) (Nat.le_refl _) (Nat.le_refl _) hr)
  | label l => intro s kw k Q ρ I j a w h hg hr hQ; exact wp_label (hQ _ _ _ _ _ _ _ _ h hg (.refl _ _) (fun _ _ => rfl) (Nat.le_refl _) (Nat.le_refl _) hr)
  | exit id => intro s kw k Q ρ I j a w h hg hr hQ; exact wp_exit (hQ (.exit id) _ _ _ _ _ _ _ h hg (.refl _ _) (fun _ _ => rfl) (Nat.le_refl _) (Nat.le_refl _) hr)
  | ret => intro s kw k Q ρ I j a w h hg hr hQ; exact wp_ret (hQ .ret _ _ _ _ _ _ _ h hg (.refl _ _) (fun _ _ => rfl) (Nat.le_refl _) (Nat.le_refl _) hr)
  | scope c ih =>
    intro s kw k Q ρ I j a w h hg hr hQ
    refine wp_scope_straight (ih s kw k _ ρ I j a w h hg hr fun sg s' kw' ρ' I' j' a' w' q1 q2 q3 q4 q5 q6 q7 => ?_)
    have := hQ sg s' kw' ρ' I' j' a' w' q1 q2 q3 q4 q5 q6 q7
    cases sg <;> exact this
  | region id ops draw =>
    intro s kw k Q ρ I j a w h hg hr hQ
    simp only [codeK] at h
    split at h
    · obtain ⟨rs, s', kw', h1, g1, l1, h2, h3, h4, h5⟩ := opsK_ok (P := P) (base := W0.heap.size) hT hS hkeys ops.toList s kw _ h hg hr.le
      rw [hr.own] at h5
      have fin : ∀ j' a' w', (k .normal s' kw').holds sp G ρ I → Rel ρ n X W0 cx.fbs (full rs s.fs) j' a' w' → Q .normal a' w' := fun j' a' w' hk hr' =>
        hQ .normal s' kw' ρ I j' a' w' hk g1 (.refl _ _) (fun _ _ => rfl) (by rw [l1.lv]; exact Nat.le_refl _) l1.vk ⟨by rw [h3]; exact hr', by rw [h4.1]; exact hr.len, by rw [h4.2]; exact hr.own⟩
      cases draw with
      | false =>
        refine wp_region ?_
        have hsz : ops.size = rs.length := by rw [← Array.length_toList, ← h2, List.length_map]
        rw [hsz, List.range_eq_range']
        exact region_seq (P := P) rs [] s.fs (by simpa using h2.symm) (by simpa using h5) (by simpa [full] using hr.rel) (fun j' a' w' hr' => fin j' a' w' h1 (by simpa using hr'))
      | true =>
        simp only [if_true] at h1
        split at h1
        · rename_i hord
          obtain ⟨g2, g3⟩ := ordK_ok (ops := ops) idx_of rs [] [] (by simpa using h2.symm) hord rfl (fun i hi => by simp at hi)
          refine wp_region_any hm ?_
          have hsz : ops.size = rs.length := by rw [← Array.length_toList, ← h2, List.length_map]
          refine region_any (F0 := s.fs) (L := rs) h2.symm h5 (fun i o ho e he hb => ?_) (fun k i x r hk hx hri => by simpa using g3 k i x r hk (Nat.zero_le _) (by simpa using hx) (by simpa using hri)) (fun j' a' w' hr' => fin j' a' w' h1 hr') ops.size (Array.replicate ops.size false) j a _ (by simp [hsz]) ?_ ?_ ?_
          · have hlt : i < rs.length := by
              rw [← hsz]
              rcases Nat.lt_or_ge i ops.size with h6 | h6
              · exact h6
              · rw [Array.getElem?_eq_none h6] at ho; cases ho
            have hri : rs[i]? = some rs[i] := List.getElem?_eq_getElem hlt
            have := idx_of i _ rs h2.symm hri
            rw [ho] at this
            cases this
            exact g2 i _ (Nat.zero_le _) (by simp) e he hb
          · intro i o _ hs
            simp only [Array.getD_eq_getD_getElem?, Array.getElem?_replicate] at hs
            split at hs <;> simp at hs
          · exact Nat.le_trans List.countP_le_length (by simp [hsz])
          · rw [part_none rs 0 s.fs (fun m hm => by
              simp only [Array.getD_eq_getD_getElem?, Array.getElem?_replicate]
              split <;> simp)]
            exact hr.rel.more (Ext.refl w).drew
        · exact h1.elim
    · have hK : ∀ s' kw' ρ' I' j' a' w', (k .normal s' kw').holds sp G ρ' I' → Good sp cx.sm ρ' kw' → Nx kw kw' ρ ρ' I I' → At cx ρ' n X W0 s' j' a' w' → Q .normal a' w' :=
        fun s' kw' ρ' I' j' a' w' q1 q2 q3 q4 => hQ .normal s' kw' ρ' I' j' a' w' q1 q2 q3.ag q3.inv q3.lv q3.vk q4
      cases draw with
      | false =>
        refine wp_region ?_
        rw [List.range_eq_range', ← Array.length_toList]
        exact regS_ok hT hS hkeys hcl ops.toList 0 (fun m o hm => by rw [Nat.zero_add, ← Array.getElem?_toList]; exact hm) s kw _ ρ I j a w h hg hr hK
      | true =>
        simp only [if_true] at h
        split at h
        · rename_i hb
          refine wp_region_any hm ?_
          refine wpAny_monoQ (Q := fun e a w => e = .normal ∧ Q .normal a w) (fun e a w h => by rw [h.1]; exact h.2) _ _ _ _ ?_
          have hnd : ((enumF 0 ops.toList).map (·.1)).Nodup := by rw [enumF_fst]; exact List.nodup_range'
          have gd : ∀ i, i < ops.size → (Array.replicate ops.size false).getD i false = false := fun i hi => by
            rw [Array.getD_eq_getD_getElem?, Array.getElem?_replicate, if_pos hi]; rfl
          refine regD_ok (W0 := W0) (n := n) (X := X) hT hS hkeys hcl hb (fun c a w h => by cases h.1) _ _ s kw _ ρ I _ j a _ h hg ⟨hr.rel.more (Ext.refl w).drew, hr.len, hr.own⟩ (fun p hp => enumF_mem hp) hnd (by simp) ?_ (fun i hi => ⟨fun _ => ?_, fun _ => gd i hi⟩)
            (fun s' kw' ρ' I' j' a' w' q1 q2 q3 q4 => ⟨rfl, hK s' kw' ρ' I' j' a' w' q1 q2 q3 q4⟩) ops.size ?_
          · intro i o ho hs
            have := gd i (Array.getElem?_eq_some_iff.1 ho).1
            exact Bool.noConfusion (hs.symm.trans this)
          · have : i ∈ (enumF 0 ops.toList).map (·.1) := by rw [enumF_fst, List.mem_range'_1]; simp; exact hi
            obtain ⟨p, hp, e⟩ := List.mem_map.1 this
            exact ⟨p, hp, e⟩
          · exact Nat.le_trans List.countP_le_length (by simp)
        · exact h.elim
  | seq x y ihx ihy =>
    intro s kw k Q ρ I j a w h hg hr hQ
    simp only [codeK] at h
    split at h
    · refine wp_seq (ihx s kw _ _ ρ I j a w h hg hr (fun sg s' kw' ρ' I' j' a' w' h' hg' ha' hI' hl' hv' hr' => ?_))
      cases sg with
      | normal => exact ihy s' kw' k Q ρ' I' j' a' w' h' hg' hr' (fun sg s2 kw2 ρ2 I2 j2 a2 w2 h2 hg2 ha2 hI2 hl2 hv2 hr2 => hQ sg s2 kw2 ρ2 I2 j2 a2 w2 h2 hg2 (ha'.trans (ha2.mono hv')) (fun m hm => (hI2 m (by omega)).trans (hI' m hm)) (by omega) (by omega) hr2)
      | exit id => exact hQ (.exit id) s' kw' ρ' I' j' a' w' h' hg' ha' hI' hl' hv' hr'
      | ret => exact hQ .ret s' kw' ρ' I' j' a' w' h' hg' ha' hI' hl' hv' hr'
    · rename_i id pls _
      split at h
      · refine wp_seq (ihx s kw _ _ ρ I j a w h hg hr (fun sg s' kw' ρ' I' j' a' w' h' hg' ha' hI' hl' hv' hr' => ?_))
        cases sg with
        | normal => exact h'.elim
        | exit id => exact hQ (.exit id) s' kw' ρ' I' j' a' w' h' hg' ha' hI' hl' hv' hr'
        | ret => exact hQ .ret s' kw' ρ' I' j' a' w' h' hg' ha' hI' hl' hv' hr'
      · split at h
        · rename_i hd vks habs
          have hlen : hd.tmps.length = n + X.length ∧ hd.n = n := ⟨(absL_len habs).1.trans hr.len, (absL_len habs).2.trans hr.own⟩
          obtain ⟨inv, hpre, hbody⟩ := h
          refine wp_seq (ihx s { kw with lv := kw.lv + 1 } _ _ ρ (upd I kw.lv inv) j a w hpre ⟨hg.pc, hg.vk, hg.log⟩ hr (fun sg s' kw' ρ' I' j' a' w' h' hg' ha' hI' hl' hv' hr' => ?_))
          have below : ∀ m, m < kw.lv → I' m = I m := fun m hm => (hI' m (by show m < kw.lv + 1; omega)).trans (upd_other I inv (by omega))
          cases sg with
          | normal =>
            obtain ⟨ds, h1, h2, j3, h3⟩ := nextK_ok (ρ := ρ) h' hg'.vk hlen ha' hr'
            rw [hI' kw.lv (Nat.lt_succ_self _), upd_same] at h1
            obtain ⟨ρ2, g1, g2, g3⟩ := hbody ds h2 h1
            refine ihy hd (kw.head vks) k Q ρ2 I j3 a' w' g3 (head_good hg g1 (by rw [g2]; exact h2)) (h3 ρ2 g1 g2) (fun sg s2 kw2 ρ3 I2 j2 a2 w2 h2 hg2 ha2 hI2 hl2 hv2 hr2 => hQ sg s2 kw2 ρ3 I2 j2 a2 w2 h2 hg2 (g1.trans (ha2.mono ?_)) (fun m hm => hI2 m ?_) ?_ ?_ hr2)
            · simp [Kw.head]
            · show m < kw.lv + 1; omega
            · have : kw.lv + 1 ≤ kw2.lv := hl2
              omega
            · have : (kw.vk ++ vks).length ≤ kw2.vk.length := hv2
              rw [List.length_append] at this
              omega
          | exit id => exact hQ (.exit id) s' kw' ρ' I' j' a' w' h' hg' ha' below (by have : kw.lv + 1 ≤ kw'.lv := hl'; omega) hv' hr'
          | ret => exact hQ .ret s' kw' ρ' I' j' a' w' h' hg' ha' below (by have : kw.lv + 1 ≤ kw'.lv := hl'; omega) hv' hr'
        · exact h.elim
  | cond c x y ihx ihy =>
    intro s kw k Q ρ I j a w h hg hr hQ
    simp only [codeK] at h
    split at h
    · rename_i e he
      have hc : a.eval c = .bool (e.B ρ) := by
        exact one_bool (hr.ev he)
      obtain ⟨kw1, h1, g1, v1, l1⟩ := decK_ok _ _ _ h hg
      have hQ' : ∀ sg s' kw' ρ' I' j' a' w', (k sg s' kw').holds sp G ρ' I' → Good sp cx.sm ρ' kw' → Ag kw1.vk.length ρ ρ' → (∀ m, m < kw1.lv → I' m = I m) → kw1.lv ≤ kw'.lv → kw1.vk.length ≤ kw'.vk.length → At cx ρ' n X W0 s' j' a' w' → Q sg.exit' a' w' := by
        intro sg s' kw' ρ' I' j' a' w' h' hg' ha' hI' hl' hv' hr'
        rw [v1] at ha' hv'
        rw [l1.lv] at hI' hl'
        exact hQ sg s' kw' ρ' I' j' a' w' h' hg' ha' hI' hl' hv' hr'
      refine wp_cond_split hc (fun ht => ?_) (fun ht => ?_)
      · rw [ht] at h1
        exact ihx s kw1 k Q ρ I j a w h1 g1 hr hQ'
      · rw [ht] at h1
        exact ihy s kw1 k Q ρ I j a w h1 g1 hr hQ'
    · exact h.elim
  | block id c ih =>
    intro s kw k Q ρ I j a w h hg hr hQ
    refine wp_block (ih s kw _ _ ρ I j a w h hg hr (fun sg s' kw' ρ' I' j' a' w' h' hg' ha' hI' hl' hv' hr' => ?_))
    cases sg with
    | normal => exact hQ .normal s' kw' ρ' I' j' a' w' h' hg' ha' hI' hl' hv' hr'
    | ret => exact hQ .ret s' kw' ρ' I' j' a' w' h' hg' ha' hI' hl' hv' hr'
    | exit i =>
      dsimp only at h'
      unfold Sig.exit' Exit.inBlock
      dsimp only
      split at h'
      · rename_i hi
        rw [if_pos (Nat.eq_of_beq_eq_true hi)]
        exact hQ .normal s' kw' ρ' I' j' a' w' h' hg' ha' hI' hl' hv' hr'
      · rename_i hi
        rw [if_neg (fun e => hi (by rw [e]; simp))]
        exact hQ (.exit i) s' kw' ρ' I' j' a' w' h' hg' ha' hI' hl' hv' hr'
  | loop c ih =>
    intro s kw k Q ρ I j a w h hg hr hQ
    simp only [codeK] at h
    split at h
    · refine wp_loop_rounds fuel ?_
      have key : ∀ (m : Nat) (s : St) (kw2 : Kw) (ρ2 : Env) (I2 : Nat → List Dt → Prop) (j : J) (a : Act) (w : World), (loopN (codeK cl cx fuel c) m s kw2 k).holds sp G ρ2 I2 → Good sp cx.sm ρ2 kw2 → Ag kw.vk.length ρ ρ2 → (∀ m, m < kw.lv → I2 m = I m) → kw.lv ≤ kw2.lv → kw.vk.length ≤ kw2.vk.length → At cx ρ2 n X W0 s j a w → Code.rounds P c Q m a w := by
        intro m
        induction m with
        | zero => intro s kw2 ρ2 I2 j a w h; exact h.elim
        | succ m ihm =>
          intro s kw2 ρ2 I2 j a w h hg ha2 hI2 hl2 hv2 hr
          rw [rounds_succ]
          simp only [loopN] at h
          refine ih s kw2 _ _ ρ2 I2 j a w h hg hr (fun sg s' kw' ρ' I' j' a' w' h' hg' ha' hI' hl' hv' hr' => ?_)
          have ha3 : Ag kw.vk.length ρ ρ' := ha2.trans (ha'.mono hv2)
          have hI3 : ∀ m, m < kw.lv → I' m = I m := fun m hm => (hI' m (by omega)).trans (hI2 m hm)
          cases sg with
          | normal => exact ihm s' kw' ρ' I' j' a' w' h' hg' ha3 hI3 (by omega) (by omega) hr'
          | exit id => exact hQ (.exit id) s' kw' ρ' I' j' a' w' h' hg' ha3 hI3 (by omega) (by omega) hr'
          | ret => exact hQ .ret s' kw' ρ' I' j' a' w' h' hg' ha3 hI3 (by omega) (by omega) hr'
      exact key fuel s kw ρ I j a w h hg (.refl _ _) (fun _ _ => rfl) (Nat.le_refl _) (Nat.le_refl _) hr
    · rename_i id pls _
      split at h
      · exact h.elim
      · split at h
        · rename_i hd vks θ ex habs harg
          split at h
          · rename_i hok
            have hlen : hd.tmps.length = n + X.length ∧ hd.n = n := ⟨(absL_len habs).1.trans hr.len, (absL_len habs).2.trans hr.own⟩
            obtain ⟨inv, μ, hinit, hbody⟩ := h
            obtain ⟨d1, d2⟩ := match_head hok hg.vk hlen (.refl _ _) hr
            have key : ∀ (m : Nat) (ds : List Dt) (a : Act) (w : World), μ ds < m → inv ds → okDs vks ds → HeadAt cx n X W0 ρ kw.vk.length vks hd ds a w → Code.rounds P c Q m a w := by
              intro m
              induction m with
              | zero => intro ds a w h; omega
              | succ m ihm =>
                intro ds a w hμ hin hds hat
                rw [rounds_succ]
                obtain ⟨ρ2, g1, g2, g3⟩ := hbody ds hds hin
                obtain ⟨j2, hj2⟩ := hat
                refine ih hd (kw.head vks) _ _ ρ2 _ j2 a w g3 (head_good hg g1 (by rw [g2]; exact hds)) (hj2 ρ2 g1 g2) (fun sg s' kw' ρ' I' j' a' w' h' hg' ha' hI' hl' hv' hr' => ?_)
                have hv2 : kw.vk.length ≤ (kw.head vks).vk.length := by simp [Kw.head]
                have ha3 : Ag kw.vk.length ρ ρ' := g1.trans (ha'.mono hv2)
                have hI3 : ∀ m, m < kw.lv → I' m = I m := fun m hm => (hI' m (by show m < kw.lv + 1; omega)).trans (upd_other I _ (by omega))
                have hl3 : kw.lv ≤ kw'.lv := by have : kw.lv + 1 ≤ kw'.lv := hl'; omega
                have hv3 : kw.vk.length ≤ kw'.vk.length := by omega
                cases sg with
                | normal =>
                  obtain ⟨ds', k1, k2, k3⟩ := nextK_ok (ρ := ρ) h' hg'.vk hlen ha3 hr'
                  rw [hI' kw.lv (Nat.lt_succ_self _), upd_same] at k1
                  exact ihm ds' a' w' (by omega) k1.1 k2 k3
                | exit id => exact hQ (.exit id) s' kw' ρ' I' j' a' w' h' hg' ha3 hI3 hl3 hv3 hr'
                | ret => exact hQ .ret s' kw' ρ' I' j' a' w' h' hg' ha3 hI3 hl3 hv3 hr'
            exact wp_loop_rounds (μ ((argE vks θ).D ρ) + 1) (key _ _ a w (Nat.lt_succ_self _) hinit d1 d2)
          · exact h.elim
        · exact h.elim
  | _ => intro s kw k Q ρ I j a w h; exact h.elim
end
end Go.Proofs.Ytoaffiooliclgaa
