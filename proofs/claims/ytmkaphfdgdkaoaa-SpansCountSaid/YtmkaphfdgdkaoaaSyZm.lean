/- Texts SyM2, SyM3, SyM4 in one. -/
import Derived.Test.YtmkaphfdgdkaoaaSyM
import Derived.Test.YtmkaphfdgdkaoaaSyG5
/- Regions with calls in place are run soundly. Nothing of the program is in here. -/
set_option linter.unusedVariables false
set_option linter.unusedSimpArgs false
namespace Go.Proofs.Ytmkaphfdgdkaoaa
open Go.ChangeMaps (setBlock)
open Go Go.RowKit

section
variable {P : Program} {sp : Spec} {ρ : Env} {G : Env → E → Prop} {I : Nat → List Dt → Prop} {cx : Cx} {cl : ClK} {n : Nat} {X : List Value} {W0 : World} {ops : Array Oper}

theorem At.ev {s : St} {j : J} {a : Act} {w : World} (h : At cx ρ n X W0 s j a w) {x : Operand} {v : V} (hx : evS s.n s.tmps x = some v) : v.den ρ j = some (a.eval x) := by
  refine h.rel.eval (x := x) ?_
  have := evS_evF s s.le x
  rw [h.own] at this hx
  rw [this]; exact hx
theorem At.le {s : St} {j : J} {a : Act} {w : World} (h : At cx ρ n X W0 s j a w) : s.n ≤ s.tmps.length := s.le
theorem capV_den {j : J} : ∀ {l : List (Option (Bool × Nat × Nat))} {vs : List Value}, ptrVs j l = some vs → vs.length = (l.map capV).length ∧ ∀ (i : Nat) x, (l.map capV)[i]? = some x → ∃ u, vs[i]? = some u ∧ x.den ρ j = some u
  | [], vs, h => by cases h; exact ⟨rfl, fun i x hx => by simp at hx⟩
  | c :: l, vs, h => by
    simp only [ptrVs] at h
    cases hc : ptrV j c with
    | none => rw [hc] at h; cases h
    | some v =>
      cases hl : ptrVs j l with
      | none => rw [hc, hl] at h; cases h
      | some us =>
        rw [hc, hl] at h
        cases h
        obtain ⟨h1, h2⟩ := capV_den hl
        refine ⟨by simp [h1], fun i x hx => ?_⟩
        cases i with
        | zero =>
          simp only [List.map_cons, List.getElem?_cons_zero, Option.some.injEq] at hx
          subst hx
          refine ⟨v, rfl, ?_⟩
          match c, hc with
          | none, hc => exact hc
          | some (true, b, o), hc => exact hc
          | some (false, b, o), hc => exact hc
        | succ i => exact h2 i x (by simpa using hx)
theorem dens_app {j : J} {xs ys : List V} {us vs : List Value} (h1 : us.length = xs.length) (h2 : ∀ (i : Nat) x, xs[i]? = some x → ∃ u, us[i]? = some u ∧ x.den ρ j = some u) (h3 : ∀ (i : Nat) x, ys[i]? = some x → ∃ u, vs[i]? = some u ∧ x.den ρ j = some u) :
    ∀ (i : Nat) x, (xs ++ ys)[i]? = some x → ∃ u, (us ++ vs)[i]? = some u ∧ x.den ρ j = some u := by
  intro i x hx
  rcases Nat.lt_or_ge i xs.length with hlt | hge
  · rw [List.getElem?_append_left hlt] at hx
    rw [List.getElem?_append_left (by omega)]
    exact h2 i x hx
  · rw [List.getElem?_append_right hge] at hx
    rw [List.getElem?_append_right (by omega), h1]
    exact h3 _ x hx

theorem inlK_ok (hcl : CallOk P sp G cx cl) {o : Oper} {g : Nat} {args : List V} {s : St} {kw : Kw} {k : St → Kw → Tr} {j : J} {a : Act} {w : World} {vals : List Value} (h : (inlK cl o g args s kw k).holds sp G ρ I) (hg : Good sp cx.sm ρ kw) (hr : At cx ρ n X W0 s j a w)
    (hl : vals.length = args.length) (hd : ∀ (i : Nat) x, args[i]? = some x → ∃ u, vals[i]? = some u ∧ x.den ρ j = some u) {K : Act → World → Prop}
    (hK : ∀ s' kw' ρ' I' j' a' w', (k s' kw').holds sp G ρ' I' → Good sp cx.sm ρ' kw' → Nx kw kw' ρ ρ' I I' → At cx ρ' n X W0 s' j' a' w' → K a' w') :
    (callFunc g vals.toArray).run P w = .ok (.enter g vals.toArray) w ∧ Calls P g vals.toArray w fun e w' => ∃ u, e = .returned u ∧ K (a.put o.dst u) w' := by
  refine hcl g args s kw _ (fun u w' => K (a.put o.dst u) w') ρ I n X W0 j a w vals h hg hr hl hd (fun v s' kw' ρ' I' j' w' u h' hg' ha hI hlv hvk hv hr' => ?_)
  have hnx : Nx kw kw' ρ ρ' I I' := ⟨ha, hI, hlv, hvk⟩
  split at h'
  · rename_i hdst
    rw [hdst]
    exact hK s' kw' ρ' I' j' _ w' h' hg' hnx hr'
  · rename_i d hdst
    split at h'
    · rename_i hlt
      have hlt' : d < s'.n := by simpa [Nat.blt_eq] using hlt
      refine hK _ kw' ρ' I' j' _ w' h' hg' hnx ⟨?_, hr'.len, hr'.own⟩
      have h1 := hr'.rel.put (dst := o.dst) hv (fun d' hd' => by rw [hdst] at hd'; cases hd'; rw [← hr'.own]; exact hlt')
      rw [hdst] at h1 ⊢
      have e : (St.mk (s'.tmps.set d v) s'.heap).fs = s'.fs.put (some d) v := by
        refine FS.ext' (fun t => ?_) (fun _ => rfl) (fun _ => rfl)
        simp only [FS.put, St.fs, fsOf, TM.get_set s'.tmps v hlt']
        by_cases ht : d = t
        · subst ht; simp
        · simp [ht]
      rw [e]
      exact h1
    · exact h'.elim
theorem nd_le : ∀ (N : Nat) (l : List Nat), l.Nodup → (∀ x ∈ l, x < N) → l.length ≤ N
  | 0, l, _, h => by
    cases l with
    | nil => simp
    | cons x l => exact absurd (h x List.mem_cons_self) (by omega)
  | N + 1, l, hn, h => by
    by_cases hm : N ∈ l
    · have h1 := nd_le N (l.erase N) (hn.erase N) (fun x hx => by
        have h2 := (hn.mem_erase_iff).1 hx
        have := h x h2.2
        have := h2.1
        omega)
      rw [List.length_erase_of_mem hm] at h1
      omega
    · have h1 := nd_le N l hn (fun x hx => by
        have := h x hx
        have : x ≠ N := fun e => hm (e ▸ hx)
        omega)
      omega
theorem all_le : ∀ (N : Nat) (l : List Nat), (∀ x, x < N → x ∈ l) → N ≤ l.length
  | 0, _, _ => by simp
  | N + 1, l, h => by
    have hm := h N (by omega)
    have h1 := all_le N (l.erase N) (fun x hx => (List.mem_erase_of_ne (by omega)).2 (h x (by omega)))
    rw [List.length_erase_of_mem hm] at h1
    have := List.length_pos_of_mem hm
    omega
theorem idxs_nodup {L : List (List Int)} (h1 : RowsIn [some .i64] L) (h2 : L.Nodup) (h3 : ∀ x ∈ L, 0 ≤ x.getD 0 0) : (idxs L).Nodup := by
  unfold idxs
  rw [List.nodup_iff_pairwise_ne, List.pairwise_map]
  refine (List.nodup_iff_pairwise_ne.1 h2).imp_of_mem fun {a b} ha hb hne e => hne ?_
  have one : ∀ x ∈ L, x = [x.getD 0 0] := fun x hx => by
    have := rowIn_length (h1.row x hx)
    match x, this with
    | [y], _ => rfl
  have := h3 a ha
  have := h3 b hb
  rw [one a ha, one b hb]
  congr 1
  omega
theorem giv_self {v0 : Nat} {ρ ρ' : Env} (h : Ag v0 ρ ρ') : Giv v0 [] [] ρ ρ' := ⟨h, fun m k t hk => by simp at hk, fun m t hk => by simp at hk, fun m ks t hk => by simp at hk⟩
theorem mem_left {es : List MapEntry} {seen : List Nat} {e : MapEntry} : e ∈ (leftOf es.toArray seen.toArray).toList ↔ e ∈ es ∧ e.born ∉ seen := by
  unfold leftOf
  simp
theorem self_s {s : St} {kw : Kw} {j : J} {id : Nat} {q : RowOb} (h : rwS s.heap id = some q) : ((selfM s kw).J j).s id = j.s id := by
  have h1 : s.heap[id]? = some (.row q) := by
    unfold rwS at h
    split at h
    · rename_i r hr; cases h; exact hr
    · cases h
  have h2 : (selfM s kw).sig id = some (some id) := by
    have h3 := (List.getElem?_eq_some_iff.1 h1).1
    unfold Mt.sig selfM
    simp only [h1]
    rw [if_pos h3]
  simp only [Mt.J, h2]
theorem one_den {ρ : Env} {j : J} (b : Bool) (cs : List C) (vals : List Value) (hd : denL ρ j cs = some vals) (hl : b = false → cs.length = 1) : den0 ρ j (b, cs) = some (cellsV b vals) := by
  cases b with
  | true => simp [den0, hd, cellsV]
  | false =>
    have := hl rfl
    match cs, this with
    | [c], _ =>
      simp only [denL] at hd
      cases hc : c.den ρ j with
      | none => rw [hc] at hd; cases hd
      | some v => rw [hc] at hd; cases hd; simp [den0, hc, cellsV]
theorem anyK_ok {o : Oper} {x : Operand} {id mid : Nat} {s : St} {kw : Kw} {k : St → Kw → Tr} {j : J} {a : Act} {w : World} (hop : o.op = .next x false) (hx : (V.one (.itp id mid)).den ρ j = some (a.eval x)) (h : (anyK cx o id mid s kw k).holds sp G ρ I) (hg : Good sp cx.sm ρ kw) (hr : At cx ρ n X W0 s j a w) {K : Act → World → Prop} {Q : Exit → Act → World → Prop}
    (hK : ∀ s' kw' ρ' I' j' a' w', (k s' kw').holds sp G ρ' I' → Good sp cx.sm ρ' kw' → Nx kw kw' ρ ρ' I I' → At cx ρ' n X W0 s' j' a' w' → K a' w') : o.wp P a w K Q := by
  unfold anyK at h
  split at h
  · rename_i q r hq hrr
    split at h
    · rename_i mid' n' nk ka va hqk hrk
      split at h
      · rename_i hc
        simp only [Bool.and_eq_true, Bool.or_eq_true, decide_eq_true_eq] at hc
        obtain ⟨⟨hn, hnk, hka, hva⟩, hok⟩ := hc
        -- what lies there, in any numbers that agree
        have look : ∀ (ρ1 : Env) (j1 : J), At cx ρ1 n X W0 s j1 a w → (V.one (.itp id mid)).den ρ1 j1 = some (a.eval x) → ∃ s0 gi g, j1.s id = some s0 ∧ s0.a = some ⟨gi, 0, none⟩ ∧ s0.c = 1 ∧ W0.heap.size ≤ gi ∧ a.eval x = .pointer (some ⟨gi, 0, none⟩) ∧
            w.heap[gi]? = some (.mapIter (some g) (r.l.R ρ1).length (idxs (q.l.R ρ1)).toArray (r.l.R ρ1).length) ∧ w.heap[g]? = some (.map (entsV r.ks nk ka va 0 (r.l.R ρ1)).toArray (r.l.R ρ1).length) ∧ s0.n = g ∧ n'.I ρ1 = ((r.l.R ρ1).length : Int) ∧ RowsIn r.ks (r.l.R ρ1) ∧ q.own = true ∧ q.ks = [some .i64] ∧ RowsIn [some .i64] (q.l.R ρ1) ∧ (q.l.R ρ1).Nodup ∧ ∀ y ∈ q.l.R ρ1, 0 ≤ y.getD 0 0 ∧ y.getD 0 0 < n'.I ρ1 := by
          intro ρ1 j1 hr1 hx1
          obtain ⟨s0, m0, hs0, hm0, hsm, hv⟩ := itp_of (ρ := ρ1) hx1
          have q1 : s.fs.row id = some (some q) := rwF_row (by rw [rwS_rwF]; exact hq)
          have r1 : s.fs.row mid = some (some r) := rwF_row (by rw [rwS_rwF]; exact hrr)
          obtain ⟨s1, h1, h2⟩ := hr1.rel.row id q q1
          rw [hs0] at h1; cases h1
          obtain ⟨s2, h3, h4⟩ := hr1.rel.row mid r r1
          rw [hm0] at h3; cases h3
          obtain ⟨g, m1, m2, m3, m4, m5, m6⟩ := h4.map hrk
          have hd := h2.2 (by rw [hqk]; simp)
          obtain ⟨gi, ob, i1, i2, i3, i4⟩ := hd.at'
          unfold obOf at i4
          rw [hqk] at i4
          obtain ⟨hks, rfl, hnd, hin⟩ := i4
          rw [hsm] at m1; cases m1
          have e0 : n'.I ρ1 = ((r.l.R ρ1).length : Int) := by rw [E.same_eq hn, mkLen_I]
          have e1 : (n'.I ρ1).toNat = (r.l.R ρ1).length := by rw [e0]; simp
          rw [e1] at i3
          refine ⟨s0, gi, s0.n, hs0, i1, hd.c, i2, ?_, i3, m3, rfl, e0, m4, hd.own, hks, by rw [← hks]; exact hd.rows, hnd, hin⟩
          rw [hv, SV.pv, i1]; rfl
        obtain ⟨s0, gi, g, b1, b2, b3, b4, b5, b6, b7, b8, b9, b10, b11, b12, b13, b14, b15⟩ := look ρ j hr hx
        have hold : ∀ e ∈ (entsV r.ks nk ka va 0 (r.l.R ρ)).toArray.toList, e.born < (r.l.R ρ).length := by
          intro e he
          obtain ⟨m, hm⟩ := List.getElem?_of_mem (show e ∈ entsV r.ks nk ka va 0 (r.l.R ρ) from by simpa using he)
          rw [entsV_get] at hm
          cases hL : (r.l.R ρ)[m]? with
          | none => rw [hL] at hm; cases hm
          | some y =>
            rw [hL] at hm
            simp only [Option.map_some, Option.some.injEq] at hm
            rw [← hm]
            have := (List.getElem?_eq_some_iff.1 hL).1
            show 0 + m < _
            omega
        have hnodup := idxs_nodup b13 b14 (fun y hy => (b15 y hy).1)
        have hlt : ∀ y ∈ idxs (q.l.R ρ), y < (r.l.R ρ).length := by
          intro y hy
          unfold idxs at hy
          obtain ⟨z, hz, rfl⟩ := List.mem_map.1 hy
          have := b15 z hz
          omega
        have hlen : (idxs (q.l.R ρ)).length = (q.l.R ρ).length := by simp [idxs]
        obtain ⟨kw1, g1, q1, v1, l1⟩ := decK_ok _ _ _ h hg
        rw [mkLt_B, mkLen_I, b9] at g1
        have hstep := run_next_at (P := P) w o.type gi g (r.l.R ρ).length (r.l.R ρ).length (idxs (q.l.R ρ)).toArray (entsV r.ks nk ka va 0 (r.l.R ρ)).toArray (r.l.R ρ).length b6 b7 hold (Nat.le_refl _)
        have hex : ∀ v w', (Instr.next (.pointer (some ⟨gi, 0, none⟩)) false o.type).run P w = .ok v w' → (execOp a.eval o).run P w = .ok (.value v) w' := by
          intro v w' hh
          simp only [execOp, hop, b5, Sem.run_bind, hh, Result.andThen_ok, Sem.run_pure]
        rcases hstep with ⟨h0, hrun⟩ | ⟨e, he, w1, hw1, hrun⟩
        · -- nothing is left
          have hall : ∀ y, y < (r.l.R ρ).length → y ∈ idxs (q.l.R ρ) := by
            intro y hy
            refine Classical.byContradiction fun hni => ?_
            have hme : entV r.ks nk ka va y ((r.l.R ρ)[y]) ∈ entsV r.ks nk ka va 0 (r.l.R ρ) := by
              refine List.mem_of_getElem? (i := y) ?_
              rw [entsV_get, List.getElem?_eq_getElem hy]
              simp
            have := mem_left.2 ⟨hme, hni⟩
            rw [Array.mem_toList_iff] at this
            have := Array.size_pos_of_mem this
            omega
          have hge := all_le _ _ hall
          rw [if_neg (by simp; omega)] at g1
          split at g1
          · rename_i s' hs'
            obtain ⟨e1, e2, e3, _, _, _⟩ := St.app_ok hr.le hs'
            refine wp_val (hex _ _ hrun) (hK s' kw1 ρ I j _ w g1 q1 (.of l1 _ _) ⟨?_, by rw [e2.1]; exact hr.len, by rw [e2.2]; exact hr.own⟩)
            rw [e1]
            exact hr.rel.put (by simp [V.den, den0L, den0, C.den, E.B]) (fun d hd => by rw [← hr.own]; exact e3 d hd)
          · exact g1.elim
        · -- an entry
          have he' := mem_left.1 he
          obtain ⟨m, hm⟩ := List.getElem?_of_mem he'.1
          rw [entsV_get] at hm
          cases hL : (r.l.R ρ)[m]? with
          | none => rw [hL] at hm; cases hm
          | some y =>
            rw [hL] at hm
            simp only [Option.map_some, Option.some.injEq, Nat.zero_add] at hm
            have hmlt := (List.getElem?_eq_some_iff.1 hL).1
            have hmn : m ∉ idxs (q.l.R ρ) := by have := he'.2; rw [← hm] at this; exact this
            have hcnt : (q.l.R ρ).length < (r.l.R ρ).length := by
              have := nd_le (r.l.R ρ).length (m :: idxs (q.l.R ρ)) (List.nodup_cons.2 ⟨hmn, hnodup⟩) (fun z hz => by
                rcases List.mem_cons.1 hz with rfl | hz
                · exact hmlt
                · exact hlt z hz)
              rw [List.length_cons, hlen] at this
              omega
            rw [if_pos (by simp; omega)] at g1
            have hmax := b10.len
            obtain ⟨ρ', ha, hz, hh⟩ := g1 (m : Int) (by rw [inK_iff]; simp only [IntKind.min, IntKind.max, IntKind.signed, IntKind.bits]; simp [maxLen] at hmax ⊢; omega)
            rw [v1] at ha hz
            have hz0 := hz
            have hr' : At cx ρ' n X W0 s ((selfM s kw).J j) a w := ⟨match_rel hok (giv_self ha) hr.rel, hr.len, hr.own⟩
            have hx' : (V.one (.itp id mid)).den ρ' ((selfM s kw).J j) = some (a.eval x) := by
              obtain ⟨t0, u0, t1, t2, t3, t4⟩ := itp_of (ρ := ρ) hx
              show (C.itp id mid).den ρ' _ = _
              simp only [C.den, self_s hq, self_s hrr, t1, t2, Option.bind_some, t3, if_true, t4]
            obtain ⟨s0', gi', g', d1, d2, d3, d4, d5, d6, d7, d8, d9, d10, d11, d12, d13, d14, d15⟩ := look ρ' _ hr' hx'
            rw [b5] at d5
            simp only [Value.pointer.injEq, Option.some.injEq, Addr.mk.injEq, and_true] at d5
            subst d5
            rw [b6] at d6
            simp only [Option.some.injEq, Obj.mapIter.injEq] at d6
            obtain ⟨f1, f2, f3, f4⟩ := d6
            subst f1
            have f3' : idxs (q.l.R ρ) = idxs (q.l.R ρ') := by simpa using f3
            rw [b7] at d7
            simp only [Option.some.injEq, Obj.map.injEq] at d7
            have f5 : entsV r.ks nk ka va 0 (r.l.R ρ) = entsV r.ks nk ka va 0 (r.l.R ρ') := by simpa using d7.1
            obtain ⟨y', hy', hey⟩ : ∃ y', (r.l.R ρ')[m]? = some y' ∧ e = entV r.ks nk ka va m y' := by
              have h1 : (entsV r.ks nk ka va 0 (r.l.R ρ))[m]? = some e := by rw [entsV_get, hL]; simp [hm]
              rw [f5, entsV_get] at h1
              cases hL' : (r.l.R ρ')[m]? with
              | none => rw [hL'] at h1; cases h1
              | some y' => rw [hL'] at h1; simp only [Option.map_some, Option.some.injEq, Nat.zero_add] at h1; exact ⟨y', rfl, h1.symm⟩
            have hmlt' : m < (r.l.R ρ').length := (List.getElem?_eq_some_iff.1 hy').1
            have hni : m ∉ idxs (q.l.R ρ') := f3' ▸ hmn
            have one : ∀ z ∈ q.l.R ρ', z = [z.getD 0 0] := fun z hz => by
              have := rowIn_length (d13.row z hz)
              match z, this with
              | [y], _ => rfl
            have hne : ∀ z ∈ q.l.R ρ', z ≠ [(m : Int)] := by
              intro z hz e
              apply hni
              unfold idxs
              refine List.mem_map.2 ⟨z, hz, ?_⟩
              rw [e]; simp
            have hmix : mixI (q.l.R ρ') [(m : Int)] = ((q.l.R ρ').length : Int) := by
              unfold mixI
              rw [List.findIdx_eq_length_of_false]
              intro z hz
              rw [beq_eq_false_iff_ne]
              intro e
              refine hne z hz ?_
              rw [one z hz] at e ⊢
              simpa using e
            have hlen2 : (q.l.R ρ').length < (r.l.R ρ').length := by
              have e1 : (q.l.R ρ').length = (q.l.R ρ).length := by
                have := congrArg List.length f3'
                simp only [idxs, List.length_map] at this
                exact this.symm
              omega
            have hcond : (nextE q.l n' kw1.vk.length).B ρ' = true := by
              have hz' : ρ'.i kw1.vk.length = (m : Int) := by rw [v1]; exact hz
              simp only [nextE, E.B, E.I, E.L, hz', d9, hmix, mkLen_I]
              simp
              omega
            have hh' := hh hcond
            split at hh'
            · rename_i s' hs'
              obtain ⟨e1, e2, e3, _, _, _⟩ := St.app_ok hr.le hs'
              have hX : Ext w w1 := by
                rcases hw1 with rfl | rfl
                · exact Ext.refl _
                · exact (Ext.refl _).drew
              have hheap : w1.heap = w.heap := by rcases hw1 with rfl | rfl <;> rfl
              have hgi : gi < w1.heap.size := by rw [hheap]; exact (Array.getElem?_eq_some_iff.1 b6).1
              have hborn : e.born = m := by rw [hey]; rfl
              have q1' : s.fs.row id = some (some q) := rwF_row (by rw [rwS_rwF]; exact hq)
              have hrel := (hr'.rel.more hX).set (id := id) (s := s0') (r := { q with l := .lapp q.l (.cons (.var kw1.vk.length) .nil) }) (w' := setBlock w1 gi (.mapIter (some g) (r.l.R ρ).length ((idxs (q.l.R ρ)).toArray.push e.born) (r.l.R ρ).length)) ⟨⟨q, q1', d11⟩, d11⟩ d1 (by
                  have : s0'.v.ownBlock = some gi := by simp [SV.v, d2, Value.ownBlock]
                  rw [this]; exact grown_setBlock w1 gi _) (HdOk.row ⟨d11, ⟨fun z hz => ?_, ?_⟩, d3, gi, _, d2, d4, setBlock_at hgi _, ?_⟩ (by show q.kd ≠ _; rw [hqk]; simp))
              · have hkey := one_den (ρ := ρ') (j := (selfM s kw).J j) ka (rowCs r.l (.var kw1.vk.length) 0 (r.ks.take nk)) ((rowV r.ks y').take nk) (by
                    rw [rowCs_den]
                    simp only [E.I]
                    rw [show ρ'.i kw1.vk.length = (m : Int) by rw [v1]; exact hz, Int.toNat_natCast, List.getD_eq_getElem?_getD, hy']
                    simp only [Option.getD_some]
                    rw [valsR_take nk (d10.row y' (List.mem_of_getElem? hy'))]) (fun e => by rw [rowCs_length, List.length_take]; have := hka.elim (fun h1 => by rw [e] at h1; cases h1) Nat.eq_of_beq_eq_true; omega)
                have hval := one_den (ρ := ρ') (j := (selfM s kw).J j) va (rowCs r.l (.var kw1.vk.length) nk (r.ks.drop nk)) ((rowV r.ks y').drop nk) (by
                    rw [rowCs_den]
                    simp only [E.I]
                    rw [show ρ'.i kw1.vk.length = (m : Int) by rw [v1]; exact hz, Int.toNat_natCast, List.getD_eq_getElem?_getD, hy']
                    simp only [Option.getD_some]
                    rw [valsR_row nk (d10.row y' (List.mem_of_getElem? hy'))]) (fun e => by rw [rowCs_length]; exact hva.elim (fun h1 => by rw [e] at h1; cases h1) Nat.eq_of_beq_eq_true)
                refine wp_val (hex _ _ hrun) (hK s' _ ρ' I ((selfM s kw).J j) _ _ hh' (head_good q1 (by rw [v1]; exact ha) ⟨?_, trivial⟩) (.trans (.of l1 _ _) ⟨by rw [v1]; exact ha, fun _ _ => rfl, by simp [Kw.head], by simp [Kw.head]⟩) ⟨?_, by rw [e2.1]; exact hr.len, by rw [e2.2]; exact hr.own⟩)
                · show inK .i64 (ρ'.i kw1.vk.length) = true
                  rw [v1, hz, inK_iff]
                  simp only [IntKind.min, IntKind.max, IntKind.signed, IntKind.bits]; simp [maxLen] at hmax ⊢; omega
                · rw [e1]
                  refine hrel.put ?_ (fun d hd => by rw [← hr.own]; exact e3 d hd)
                  simp only [V.den, den0L, hkey, hval, Option.map_some]
                  rw [hey]
                  rfl
              · simp only [E.R, List.mem_append, List.mem_singleton] at hz
                show rowIn q.ks z = true
                rw [d12]
                rcases hz with hz | rfl
                · exact d13.row z hz
                · simp only [E.L, rowIn, Bool.and_true]
                  show inK .i64 (ρ'.i kw1.vk.length) = true
                  rw [v1, hz0, inK_iff]
                  simp only [IntKind.min, IntKind.max, IntKind.signed, IntKind.bits]; simp [maxLen] at hmax ⊢; omega
              · simp only [E.R, List.length_append, List.length_singleton]
                have := d10.len
                omega
              · have hN : (n'.I ρ').toNat = (r.l.R ρ').length := by rw [d9]; simp
                have hR : (E.lapp q.l (.cons (.var kw1.vk.length) .nil)).R ρ' = q.l.R ρ' ++ [[(m : Int)]] := by
                  simp only [E.R, E.L, E.I]
                  rw [show ρ'.i kw1.vk.length = (m : Int) by rw [v1]; exact hz0]
                unfold obOf
                simp only [hqk]
                rw [hR]
                refine ⟨d12, ?_, ?_, fun z hz => ?_⟩
                · rw [hN, ← f2, d8, hborn, f3']
                  simp [idxs]
                · rw [List.nodup_append]
                  refine ⟨d14, by simp, fun z hz z' hz' => ?_⟩
                  rw [List.mem_singleton.1 hz']
                  exact hne z hz
                · rcases List.mem_append.1 hz with hz | hz
                  · exact d15 z hz
                  · rw [List.mem_singleton.1 hz, d9]
                    simp
                    omega
            · exact hh'.elim
      · exact h.elim
    · exact h.elim
  · exact h.elim
theorem goK_ok (hcl : CallOk P sp G cx cl) {o : Oper} {s : St} {kw : Kw} {k : St → Kw → Tr} {j : J} {a : Act} {w : World} (h : (goK cl cx o s kw k).holds sp G ρ I) (hg : Good sp cx.sm ρ kw) (hr : At cx ρ n X W0 s j a w) {K : Act → World → Prop} {Q : Exit → Act → World → Prop}
    (hK : ∀ s' kw' ρ' I' j' a' w', (k s' kw').holds sp G ρ' I' → Good sp cx.sm ρ' kw' → Nx kw kw' ρ ρ' I I' → At cx ρ' n X W0 s' j' a' w' → K a' w') : o.wp P a w K Q := by
  unfold goK at h
  split at h
  · rename_i c hop
    split at h
    · rename_i f hc
      have run : ∀ (g : Nat) (vals : List Value), (execOp a.eval o).run P w = (callFunc g vals.toArray).run P w → ((callFunc g vals.toArray).run P w = .ok (.enter g vals.toArray) w ∧ Calls P g vals.toArray w fun e w' => ∃ u, e = .returned u ∧ K (a.put o.dst u) w') → o.wp P a w K Q := by
        intro g vals h6 ⟨h7, h8⟩
        unfold Oper.wp
        rw [h6, h7]
        show Calls P g _ w _
        refine h8.mono ?_
        rintro e' w' ⟨u, rfl, hk⟩
        exact hk
      split at h
      · rename_i g args hf hl
        obtain ⟨h1, h2⟩ := evL_ok (ρ := ρ) (j := j) (a := a) hl (fun x _ v hv => hr.ev hv)
        have h4 := hr.ev hf
        have h5 : a.eval f = .func (.func g) #[] #[] := (Option.some.inj h4).symm
        refine run g (c.args.toList.map a.eval) ?_ (inlK_ok hcl h hg hr (by simpa using h2) (fun i x hx => ?_) hK)
        · have h7 : c.args.map a.eval = (c.args.toList.map a.eval).toArray := by rw [← map_toList]
          rw [← h7]
          simp only [execOp, hop, resolve, hc, h5, Deferred.ofValue, Sem.run_bind, Sem.run_pure, Result.andThen_ok, invoke, Array.empty_append, Array.append_empty]
        · have hlt : i < (c.args.toList.map a.eval).length := by
            have := (List.getElem?_eq_some_iff.1 hx).1
            rw [h2]; exact this
          exact ⟨_, List.getElem?_eq_getElem hlt, h1 i x _ hx (List.getElem?_eq_getElem hlt)⟩
      · rename_i g fs ps args hf hl
        obtain ⟨h1, h2⟩ := evL_ok (ρ := ρ) (j := j) (a := a) hl (fun x _ v hv => hr.ev hv)
        obtain ⟨x, y, hx, hy, h5⟩ := cloV_some (show cloV g (ptrVs j fs) (ptrVs j ps) = some (a.eval f) from hr.ev hf)
        obtain ⟨e1, e2⟩ := capV_den (ρ := ρ) hx
        obtain ⟨e3, e4⟩ := capV_den (ρ := ρ) hy
        have e5 : ∀ (i : Nat) z, args[i]? = some z → ∃ u, (c.args.toList.map a.eval)[i]? = some u ∧ z.den ρ j = some u := fun i z hz => by
          have hlt : i < (c.args.toList.map a.eval).length := by
            have := (List.getElem?_eq_some_iff.1 hz).1
            rw [h2]; exact this
          exact ⟨_, List.getElem?_eq_getElem hlt, h1 i z _ hz (List.getElem?_eq_getElem hlt)⟩
        refine run g (x ++ c.args.toList.map a.eval ++ y) ?_ (inlK_ok hcl h hg hr (by simp only [List.length_append, e1, e3, h2]) (dens_app (by simp only [List.length_append, e1, h2]) (dens_app e1 e2 e5) e4) hK)
        have h7 : c.args.map a.eval = (c.args.toList.map a.eval).toArray := by rw [← map_toList]
        have h8 : (x ++ c.args.toList.map a.eval ++ y).toArray = x.toArray ++ c.args.map a.eval ++ y.toArray := by rw [h7]; simp
        rw [h8]
        simp only [execOp, hop, resolve, hc, h5, Deferred.ofValue, Sem.run_bind, Sem.run_pure, Result.andThen_ok, invoke]
      · exact h.elim
    · exact h.elim
  · rename_i x hop
    split at h
    · rename_i id mid hx
      exact anyK_ok hop (hr.ev hx) h hg hr hK
    · exact h.elim
  · exact h.elim
theorem one_of {rs : List Rec} {o : Oper} (h : rs.map (·.o) = [o]) : ∃ r, rs = [r] := by
  cases rs with
  | nil => cases h
  | cons r l => cases l with
    | nil => exact ⟨r, rfl⟩
    | cons => simp at h
theorem skipK_ok {o : Oper} {i : Nat} (ho : ops[i]? = some o) {s : St} {kw : Kw} {k : St → Kw → Tr} {j : J} {a : Act} {w : World} (h : (skipK o s kw k).holds sp G ρ I) (hg : Good sp cx.sm ρ kw) (hr : At cx ρ n X W0 s j a w) (hw : Region.wanted o (yielded ops a.tmps) = false)
    {K : Act → World → Prop} {Q : Exit → Act → World → Prop}
    (hK : ∀ s' kw' ρ' I' j' a' w', (k s' kw').holds sp G ρ' I' → Good sp cx.sm ρ' kw' → Nx kw kw' ρ ρ' I I' → At cx ρ' n X W0 s' j' a' w' → K a' w') : wpOp P ops Q i K a w := by
  unfold skipK at h
  split at h
  · rename_i s' hs'
    obtain ⟨e1, e2, e3, _, _, _⟩ := St.app_ok hr.le hs'
    unfold wpOp
    simp only [ho, hw]
    refine hK s' kw ρ I j _ w h hg (.refl _ _ _) ⟨?_, by rw [e2.1]; exact hr.len, by rw [e2.2]; exact hr.own⟩
    rw [e1]
    exact hr.rel.put rfl (fun d hd => by rw [← hr.own]; exact e3 d hd)
  · exact h.elim
theorem barK_ok (hT : ∀ t i, (t, i) ∈ cx.ty → TIok P t i) (hS : ∀ s ∈ cx.sm, SmOk P sp s) (hkeys : ∀ s ∈ cx.sm, ∀ s' ∈ cx.sm, s.key = s'.key → s = s') (hcl : CallOk P sp G cx cl) {o : Oper} {i : Nat} (ho : ops[i]? = some o) {s : St} {kw : Kw} {k : St → Kw → Tr} {j : J} {a : Act} {w : World}
    (h : (barK cl cx ops o s kw k).holds sp G ρ I) (hg : Good sp cx.sm ρ kw) (hr : At cx ρ n X W0 s j a w) {K : Act → World → Prop} {Q : Exit → Act → World → Prop}
    (hK : ∀ s' kw' ρ' I' j' a' w', (k s' kw').holds sp G ρ' I' → Good sp cx.sm ρ' kw' → Nx kw kw' ρ ρ' I I' → At cx ρ' n X W0 s' j' a' w' → K a' w') : wpOp P ops Q i K a w := by
  unfold barK at h
  split at h
  · obtain ⟨rs, s', kw', h1, g1, l1, h2, h3, h4, h5⟩ := opsK_ok (P := P) (base := W0.heap.size) hT hS hkeys [o] s kw _ h hg hr.le
    obtain ⟨r, rfl⟩ := one_of h2
    have e2 : r.o = o := by simpa using h2
    have h6 := h5 0 r rfl
    rw [hr.own] at h6
    subst e2
    refine rec_step hr.rel h6 ho (fun j' a' w' h' => hK s' kw' ρ I j' a' w' h1 g1 (.of l1 _ _) ⟨?_, by rw [h4.1]; exact hr.len, by rw [h4.2]; exact hr.own⟩)
    rw [h3]
    exact h'
  · split at h
    · rename_i hgd
      unfold wpOp
      simp only [ho, Region.wanted, hgd, if_true]
      exact .inl (goK_ok hcl h hg hr hK)
    · rename_i g b hgd
      have tmpAt : ∀ v, ((ops[g]?).bind (·.dst)).bind (fun t => if Nat.blt t s.n then s.tmps.get? t else none) = some v → ∃ t, (ops[g]?).bind (·.dst) = some t ∧ t < n ∧ s.fs.tmp t = v := by
        intro v h
        rw [Option.bind_eq_some_iff] at h
        obtain ⟨t, h1, h2⟩ := h
        split at h2
        · rename_i ht
          refine ⟨t, h1, ?_, by simp [St.fs, fsOf, h2]⟩
          rw [← hr.own]
          simpa [Nat.blt_eq] using ht
        · cases h2
      split at h
      · rename_i e he
        obtain ⟨t, h1, h2, h3⟩ := tmpAt _ he
        obtain ⟨h4, -⟩ := yielded_of hr.rel h1 h2
        have h5 := h4 e h3
        obtain ⟨kw1, h6, g6, v6, l6⟩ := decK_ok _ _ _ h hg
        have hnx : Nx kw kw1 ρ ρ I I := .of l6 _ _
        have hw : Region.wanted o (yielded ops a.tmps) = (e.B ρ == b) := by
          simp only [Region.wanted, hgd, h5]
          cases e.B ρ <;> cases b <;> rfl
        split at h6
        · rename_i hb
          unfold wpOp
          simp only [ho, hw, hb, if_true]
          exact .inl (goK_ok hcl h6 g6 hr (fun s' kw' ρ' I' j' a' w' q1 q2 q3 q4 => hK s' kw' ρ' I' j' a' w' q1 q2 (hnx.trans q3) q4))
        · rename_i hb
          exact skipK_ok ho h6 g6 hr (by rw [hw]; simpa using hb) (fun s' kw' ρ' I' j' a' w' q1 q2 q3 q4 => hK s' kw' ρ' I' j' a' w' q1 q2 (hnx.trans q3) q4)
      · rename_i he
        obtain ⟨t, h1, h2, h3⟩ := tmpAt _ he
        obtain ⟨-, h4⟩ := yielded_of hr.rel h1 h2
        refine skipK_ok ho h hg hr ?_ hK
        simp only [Region.wanted, hgd, h4 h3]
        rfl
      · exact h.elim

/-! ### In the order of the text -/
theorem regS_ok (hT : ∀ t i, (t, i) ∈ cx.ty → TIok P t i) (hS : ∀ s ∈ cx.sm, SmOk P sp s) (hkeys : ∀ s ∈ cx.sm, ∀ s' ∈ cx.sm, s.key = s'.key → s = s') (hcl : CallOk P sp G cx cl) {Q : Exit → Act → World → Prop} :
    ∀ (l : List Oper) (i : Nat), (∀ (m : Nat) o, l[m]? = some o → ops[i + m]? = some o) → ∀ (s : St) (kw : Kw) (k : St → Kw → Tr) (ρ : Env) (I : Nat → List Dt → Prop) (j : J) (a : Act) (w : World), (regS cl cx ops l s kw k).holds sp G ρ I → Good sp cx.sm ρ kw → At cx ρ n X W0 s j a w →
      (∀ s' kw' ρ' I' j' a' w', (k s' kw').holds sp G ρ' I' → Good sp cx.sm ρ' kw' → Nx kw kw' ρ ρ' I I' → At cx ρ' n X W0 s' j' a' w' → Q .normal a' w') → wpOps P ops Q (List.range' i l.length) a w
  | [], i, hi, s, kw, k, ρ, I, j, a, w, h, hg, hr, hK => by
    simp only [List.length_nil, List.range'_zero, wpOps]
    exact hK s kw ρ I j a w h hg (.refl _ _ _) hr
  | o :: l, i, hi, s, kw, k, ρ, I, j, a, w, h, hg, hr, hK => by
    simp only [List.length_cons, List.range'_succ]
    rw [wpOps_cons]
    have ho : ops[i]? = some o := hi 0 o rfl
    have tail : ∀ s' kw' ρ' I' j' a' w', (regS cl cx ops l s' kw' k).holds sp G ρ' I' → Good sp cx.sm ρ' kw' → Nx kw kw' ρ ρ' I I' → At cx ρ' n X W0 s' j' a' w' → wpOps P ops Q (List.range' (i + 1) l.length) a' w' :=
      fun s' kw' ρ' I' j' a' w' q1 q2 q3 q4 => regS_ok hT hS hkeys hcl l (i + 1) (fun m o hm => by rw [Nat.add_assoc, Nat.add_comm 1 m]; exact hi (m + 1) o (by simpa using hm)) s' kw' k ρ' I' j' a' w' q1 q2 q4
        (fun s2 kw2 ρ2 I2 j2 a2 w2 p1 p2 p3 p4 => hK s2 kw2 ρ2 I2 j2 a2 w2 p1 p2 (q3.trans p3) p4)
    simp only [regS] at h
    split at h
    · exact barK_ok hT hS hkeys hcl ho h hg hr tail
    · obtain ⟨rs, s', kw', h1, g1, l1, h2, h3, h4, h5⟩ := opsK_ok (P := P) (base := W0.heap.size) hT hS hkeys [o] s kw _ h hg hr.le
      obtain ⟨r, rfl⟩ := one_of h2
      have e2 : r.o = o := by simpa using h2
      have h6 := h5 0 r rfl
      rw [hr.own] at h6
      subst e2
      refine rec_step hr.rel h6 ho (fun j' a' w' h' => tail s' kw' ρ I j' a' w' h1 g1 (.of l1 _ _) ⟨?_, by rw [h4.1]; exact hr.len, by rw [h4.2]; exact hr.own⟩)
      rw [h3]
      exact h'
end
end Go.Proofs.Ytmkaphfdgdkaoaa

/- A drawn region with calls in place. Nothing of the program is in here. -/
set_option linter.unusedVariables false
set_option linter.unusedSimpArgs false
namespace Go.Proofs.Ytmkaphfdgdkaoaa
open Go Go.RowKit

section
variable {P : Program} {sp : Spec} {ρ : Env} {G : Env → E → Prop} {I : Nat → List Dt → Prop} {cx : Cx} {cl : ClK} {n : Nat} {X : List Value} {W0 : World} {ops : Array Oper}

theorem enumF_at : ∀ (l : List Oper) (k i : Nat) (p : Nat × Oper), (enumF k l)[i]? = some p → p.1 = k + i ∧ l[i]? = some p.2
  | [], k, i, p, h => by simp [enumF] at h
  | o :: l, k, i, p, h => by
    cases i with
    | zero => simp only [enumF, List.getElem?_cons_zero, Option.some.injEq] at h; subst h; exact ⟨rfl, rfl⟩
    | succ i =>
      have := enumF_at l (k + 1) i p (by simpa [enumF] using h)
      exact ⟨by omega, by simpa using this.2⟩
theorem enumF_len : ∀ (l : List Oper) (k : Nat), (enumF k l).length = l.length
  | [], _ => rfl
  | _ :: l, k => by simp [enumF, enumF_len l (k + 1)]
theorem enumF_fst : ∀ (l : List Oper) (k : Nat), (enumF k l).map (·.1) = List.range' k l.length
  | [], _ => rfl
  | _ :: l, k => by simp [enumF, enumF_fst l (k + 1), List.range'_succ]
theorem enumF_mem {p : Nat × Oper} (h : p ∈ enumF 0 ops.toList) : ops[p.1]? = some p.2 := by
  obtain ⟨i, hi⟩ := List.getElem?_of_mem h
  obtain ⟨h1, h2⟩ := enumF_at _ 0 i p hi
  rw [h1, Nat.zero_add, ← Array.getElem?_toList]; exact h2
theorem firstBar_mem {l : List (Nat × Oper)} {p : Nat × Oper} (h : firstBar cx l = some p) : p ∈ l := by
  induction l with
  | nil => cases h
  | cons q l ih =>
    rw [firstBar] at h
    by_cases hb : isBar cx q.2 = true
    · rw [if_pos hb] at h
      rw [← Option.some.inj h]
      exact List.mem_cons_self
    · rw [if_neg hb] at h
      exact List.mem_cons_of_mem _ (ih h)

theorem masks_len : ∀ (l : List Oper) (ms : List Nat), (l.foldl (fun ms o => ms ++ [maskOf o ms]) ms).length = ms.length + l.length
  | [], ms => rfl
  | o :: l, ms => by simp only [List.foldl_cons, masks_len l, List.length_append, List.length_cons, List.length_nil]; omega
theorem masks_at : ∀ (l : List Oper) (ms : List Nat) (i : Nat), (i < ms.length → (l.foldl (fun ms o => ms ++ [maskOf o ms]) ms)[i]? = ms[i]?) ∧
    ∀ o, l[i]? = some o → ∃ pre, pre.length = ms.length + i ∧ (∀ k, k < pre.length → (l.foldl (fun ms o => ms ++ [maskOf o ms]) ms)[k]? = pre[k]?) ∧ (l.foldl (fun ms o => ms ++ [maskOf o ms]) ms)[ms.length + i]? = some (maskOf o pre)
  | [], ms, i => ⟨fun _ => rfl, fun o h => by simp at h⟩
  | o :: l, ms, i => by
    simp only [List.foldl_cons]
    have ih := masks_at l (ms ++ [maskOf o ms])
    refine ⟨fun h => by rw [(ih i).1 (by simp; omega), List.getElem?_append_left h], fun o' h => ?_⟩
    cases i with
    | zero =>
      simp only [List.getElem?_cons_zero, Option.some.injEq] at h
      subst h
      refine ⟨ms, rfl, fun k hk => by rw [(ih k).1 (by simp; omega), List.getElem?_append_left hk], ?_⟩
      rw [Nat.add_zero, (ih ms.length).1 (by simp), List.getElem?_append_right (Nat.le_refl _)]
      simp
    | succ i =>
      obtain ⟨pre, h1, h2, h3⟩ := (ih i).2 o' (by simpa using h)
      simp only [List.length_append, List.length_cons, List.length_nil] at h1 h3
      exact ⟨pre, by omega, h2, by rw [show ms.length + (i + 1) = ms.length + (0 + 1) + i by omega]; exact h3⟩
theorem masks_forced : ∀ (i k : Nat), bitOf (masksOf ops) i k = true → Forced ops k i := by
  intro i
  induction i using Nat.strongRecOn with
  | _ i ih =>
    intro k hk sel hc hd
    unfold bitOf at hk
    cases ho : ops.toList[i]? with
    | none =>
      have hge := List.getElem?_eq_none_iff.1 ho
      rw [List.getD_eq_getElem?_getD, List.getElem?_eq_none (by unfold masksOf; rw [masks_len]; simp at hge ⊢; omega)] at hk
      simp at hk
    | some o =>
      obtain ⟨pre, h1, h2, h3⟩ := (masks_at ops.toList [] i).2 o ho
      simp only [List.length_nil, Nat.zero_add] at h1 h3
      rw [List.getD_eq_getElem?_getD, show (masksOf ops)[i]? = some (maskOf o pre) from h3] at hk
      have ho' : ops[i]? = some o := by rw [← Array.getElem?_toList]; exact ho
      rcases mask_bit _ 0 hk with h4 | ⟨e, h4, h5, h6⟩
      · simp at h4
      · have h4' : e ∈ o.after := by simpa using h4
        have hs := hd o ho' e h4' h5
        rcases h6 with rfl | h6
        · exact hs
        · have hlt : e.on < pre.length := by
            rcases Nat.lt_or_ge e.on pre.length with h7 | h7
            · exact h7
            · rw [List.getD_eq_getElem?_getD, List.getElem?_eq_none h7] at h6
              simp at h6
          have h7 : bitOf (masksOf ops) e.on k = true := by
            unfold bitOf
            rw [List.getD_eq_getElem?_getD, show (masksOf ops)[e.on]? = pre[e.on]? from h2 e.on hlt, ← List.getD_eq_getElem?_getD]
            exact h6
          exact ih e.on (by omega) k h7 sel hc (fun o' ho2 e' he' hb' => hc e.on o' ho2 hs e' he' hb')
theorem float_of (hT : ∀ t i, (t, i) ∈ cx.ty → TIok P t i) {i : Nat} {o : Oper} (h : floatB cx ops i o = true) : Float P ops i o := by
  simp only [floatB, Bool.and_eq_true] at h
  obtain ⟨h1, h2, h3, h4⟩ := h
  refine ⟨fun a w K hw => ?_, by simpa using h1, h3, h4⟩
  split at h2
  · rename_i x hop; exact still_move (.inl hop) a
  · rename_i x hop; exact still_move (.inr hop) a
  · rename_i s x f hop
    split at h2
    · rename_i ti hti
      obtain ⟨p, hp⟩ := Option.isSome_iff_exists.1 h2
      exact still_field hop (hT _ _ (lookN_mem hti)) (off := p.1) (ft := p.2) hp hw
    · cases h2
  · cases h2

theorem pairsI_at {ms : List Nat} {p : Nat × Rec} {l : List (Nat × Rec)} (h : pairsI ops ms p l = true) (q : Nat × Rec) (hq : q ∈ l) : bitOf ms p.1 q.1 = true ∨ Indep ops q.2 p.2 := by
  induction l with
  | nil => cases hq
  | cons x l ih =>
    rw [pairsI, Bool.and_eq_true, Bool.or_eq_true] at h
    rcases List.mem_cons.1 hq with e | hq
    · rw [e]
      exact h.1.imp id indep_ok
    · exact ih h.2 hq
theorem segPairs_at {ms : List Nat} : ∀ {l pre : List (Nat × Rec)}, segPairs ops ms pre l = true → ∀ (m q : Nat) x r, m < q → pre.length ≤ q → (pre ++ l)[m]? = some x → (pre ++ l)[q]? = some r → bitOf ms r.1 x.1 = true ∨ Indep ops x.2 r.2
  | [], pre, _, m, q, x, r, hm, hq, hx, hr => by rw [List.append_nil, List.getElem?_eq_none hq] at hr; cases hr
  | p :: l, pre, h, m, q, x, r, hm, hq, hx, hr => by
    simp only [segPairs, Bool.and_eq_true] at h
    rcases Nat.lt_or_ge pre.length q with h1 | h1
    · exact segPairs_at h.2 m q x r hm (by simp; omega) (by simpa using hx) (by simpa using hr)
    · have : q = pre.length := by omega
      subst this
      rw [List.getElem?_append_right (Nat.le_refl _)] at hr
      simp only [Nat.sub_self, List.getElem?_cons_zero, Option.some.injEq] at hr
      subst hr
      rw [List.getElem?_append_left hm] at hx
      exact pairsI_at h.1 x (List.mem_of_getElem? hx)
/-- Records with their places. -/
theorem zip_at : ∀ {A : List (Nat × Oper)} {rs : List Rec}, rs.map (·.o) = A.map (·.2) → ∀ (m : Nat) p, ((A.map (·.1)).zip rs)[m]? = some p → A[m]? = some (p.1, p.2.o) ∧ rs[m]? = some p.2
  | [], rs, _, m, p, hp => by simp at hp
  | a :: A, [], h, m, p, hp => by simp at h
  | a :: A, r :: rs, h, m, p, hp => by
    simp only [List.map_cons, List.cons.injEq] at h
    cases m with
    | zero =>
      simp only [List.map_cons, List.zip_cons_cons, List.getElem?_cons_zero, Option.some.injEq] at hp
      subst hp
      exact ⟨by rw [h.1]; rfl, rfl⟩
    | succ m => exact zip_at h.2 m p (by simpa using hp)
theorem zip_fst : ∀ {A : List (Nat × Oper)} {rs : List Rec}, rs.map (·.o) = A.map (·.2) → ((A.map (·.1)).zip rs).map (·.1) = A.map (·.1)
  | [], rs, _ => by simp
  | a :: A, [], h => by simp at h
  | a :: A, r :: rs, h => by
    simp only [List.map_cons, List.cons.injEq] at h
    simp [zip_fst h.2]
theorem zip_full : ∀ {A : List (Nat × Oper)} {rs : List Rec} (F : FS), rs.map (·.o) = A.map (·.2) → ∀ m, fullI (((A.map (·.1)).zip rs).take m) F = full (rs.take m) F
  | [], [], F, _, m => by simp [fullI, full]
  | [], r :: rs, F, h, m => by simp at h
  | a :: A, [], F, h, m => by simp at h
  | a :: A, r :: rs, F, h, m => by
    simp only [List.map_cons, List.cons.injEq] at h
    cases m with
    | zero => rfl
    | succ m =>
      simp only [List.map_cons, List.zip_cons_cons, List.take_succ_cons, fullI, full, List.foldl_cons]
      exact zip_full (F.rec' r) h.2 m
theorem back_of (h : backOk ops = true) {i : Nat} {o : Oper} (ho : ops[i]? = some o) : ∀ e ∈ o.after, Region.binds .any e = true → e.on < i := by
  intro e he hb
  have hm : (i, o) ∈ enumF 0 ops.toList := by
    have hlt := (Array.getElem?_eq_some_iff.1 ho).1
    have : i < (enumF 0 ops.toList).length := by rw [enumF_len]; simpa using hlt
    have h1 := List.getElem?_eq_getElem this
    obtain ⟨h2, h3⟩ := enumF_at _ 0 i _ h1
    rw [← Array.getElem?_toList] at ho
    rw [ho] at h3
    have : (enumF 0 ops.toList)[i] = (i, o) := Prod.ext (by rw [h2, Nat.zero_add]) (Option.some.inj h3).symm
    rw [← this]; exact List.getElem_mem _
  have := List.all_eq_true.1 (List.all_eq_true.1 h _ hm) e (by simpa using he)
  simpa [hb, Nat.blt_eq] using this

/-- A drawn region about calls in place. -/
theorem regD_ok (hT : ∀ t i, (t, i) ∈ cx.ty → TIok P t i) (hS : ∀ s ∈ cx.sm, SmOk P sp s) (hkeys : ∀ s ∈ cx.sm, ∀ s' ∈ cx.sm, s.key = s'.key → s = s') (hcl : CallOk P sp G cx cl) (hb : backOk ops = true) {Q : Exit → Act → World → Prop} (hQ : ∀ c a w, ¬ Q (.panic c) a w) :
    ∀ (m : Nat) (todo : List (Nat × Oper)) (s : St) (kw : Kw) (k : St → Kw → Tr) (ρ : Env) (I : Nat → List Dt → Prop) (listed : Array Bool) (j : J) (a : Act) (w : World), (regD cl cx ops (masksOf ops) m todo s kw k).holds sp G ρ I → Good sp cx.sm ρ kw → At cx ρ n X W0 s j a w →
      (∀ p ∈ todo, ops[p.1]? = some p.2) → (todo.map (·.1)).Nodup → listed.size = ops.size → Closed ops (fun i => listed.getD i false) → (∀ i, i < ops.size → (listed.getD i false = false ↔ ∃ p ∈ todo, p.1 = i)) →
      (∀ s' kw' ρ' I' j' a' w', (k s' kw').holds sp G ρ' I' → Good sp cx.sm ρ' kw' → Nx kw kw' ρ ρ' I I' → At cx ρ' n X W0 s' j' a' w' → Q .normal a' w') → ∀ fuel, cnt ops listed ≤ fuel → wpAny P .any ops Q fuel listed a w := by
  intro m
  induction m with
  | zero => intro todo s kw k ρ I listed j a w h; exact h.elim
  | succ m ih =>
    intro todo s kw k ρ I listed j a w h hg hr hop hnd hsz hc hun hK fuel hf
    -- a part, and what is left out
    have part : ∀ (A : List (Nat × Oper)) (outs : List (Nat × Oper)) (rs : List Rec) (s' : St) (kw' : Kw), (∀ p ∈ A, p ∈ todo) → (A.map (·.1)).Nodup → (∀ p ∈ todo, p ∈ A ∨ ∃ q ∈ outs, q.1 = p.1) →
        KwGe kw' kw → rs.map (·.o) = A.map (·.2) → s'.fs = full rs s.fs → (s'.tmps.length = s.tmps.length ∧ s'.n = s.n) → (∀ (m : Nat) r, rs[m]? = some r → RecOk P ρ s.n W0.heap.size cx.fbs ops r (full (rs.take m) s.fs)) → segOk cx ops (masksOf ops) ((A.map (·.1)).zip rs) outs = true →
        (∀ (listed' : Array Bool) j' a' w', listed'.size = ops.size → Closed ops (fun i => listed'.getD i false) → (∀ i, listed'.getD i false = true ↔ (listed.getD i false = true ∨ ∃ p ∈ A, p.1 = i)) → At cx ρ n X W0 s' j' a' w' → ∀ fuel, cnt ops listed' ≤ fuel → wpAny P .any ops Q fuel listed' a' w') →
        wpAny P .any ops Q fuel listed a w := by
      intro A outs rs s' kw' hA hndA hcov hkw h2 h3 h4 h5 hseg hend
      simp only [segOk, Bool.and_eq_true] at hseg
      obtain ⟨g1, g2, g3⟩ := hseg
      have memL : ∀ p, p ∈ (A.map (·.1)).zip rs → (p.1, p.2.o) ∈ A := fun p hp => by
        obtain ⟨i, hi⟩ := List.getElem?_of_mem hp
        exact List.mem_of_getElem? (zip_at h2 i p hi).1
      have idxL : ∀ i, (∃ p ∈ A, p.1 = i) → ∃ p ∈ (A.map (·.1)).zip rs, p.1 = i := fun i ⟨p, hp, e⟩ => by
        have : i ∈ ((A.map (·.1)).zip rs).map (·.1) := by rw [zip_fst h2]; exact List.mem_map.2 ⟨p, hp, e⟩
        obtain ⟨q, hq, e2⟩ := List.mem_map.1 this
        exact ⟨q, hq, e2⟩
      refine seg_any (fb := cx.fbs) (n := n) (X := X) (W0 := W0) (ρ := ρ) (F0 := s.fs) (L := (A.map (·.1)).zip rs) (base := fun i => listed.getD i false) hQ (fun p hp => hop _ (hA _ (memL p hp))) (by rw [zip_fst h2]; exact hndA) (fun i p hp => ?_) (fun i q x r hiq hx hq => ?_) (fun p hp e he hbd => ?_) (fun i hi hbase hnot p hp => ?_) (fun listed' j' a' w' hs' hc' hl' hrel => ?_)
        _ listed j a w (Nat.le_refl _) hsz hc (fun i hi => .inl hi) (fun i hi => hi) ?_ fuel hf
      · rw [zip_full s.fs h2]
        have := h5 i p.2 (zip_at h2 i p hp).2
        rw [hr.own] at this
        exact this
      · rcases segPairs_at g1 i q x r hiq (Nat.zero_le _) (by simpa using hx) (by simpa using hq) with h6 | h6
        · exact .inr (masks_forced _ _ h6)
        · exact .inl h6
      · have h6 := List.all_eq_true.1 (List.all_eq_true.1 g2 p hp) e (by simpa using he)
        simp only [hbd, Bool.not_true, Bool.false_or, Bool.and_eq_true, Nat.blt_eq] at h6
        refine ⟨h6.1, ?_⟩
        cases hbl : listed.getD e.on false with
        | true => exact .inl rfl
        | false =>
          right
          have hpl := (Array.getElem?_eq_some_iff.1 (hop _ (hA _ (memL p hp)))).1
          obtain ⟨q, hq, e1⟩ := (hun e.on (Nat.lt_trans h6.1 hpl)).1 hbl
          rcases hcov q hq with h7 | ⟨q2, h7, e2⟩
          · exact idxL _ ⟨q, h7, e1⟩
          · exfalso
            have := List.all_eq_true.1 h6.2 q2 h7
            rw [e2, e1] at this
            simp at this
      · obtain ⟨q, hq, e1⟩ := (hun i hi).1 hbase
        rcases hcov q hq with h7 | ⟨q2, h7, e2⟩
        · exfalso
          obtain ⟨x, hx, ex⟩ := idxL i ⟨q, h7, e1⟩
          exact hnot x hx ex
        · have h8 := List.all_eq_true.1 (List.all_eq_true.1 g3 q2 h7) p hp
          simp only [Bool.or_eq_true] at h8
          rw [e2, e1] at h8
          rcases h8 with h8 | h8
          · exact .inr (masks_forced _ _ h8)
          · exact .inl (float_of hT h8)
      · refine hend listed' j' a' w' hs' hc' (fun i => ⟨fun h => ?_, fun h => ?_⟩) ⟨?_, by rw [h4.1]; exact hr.len, by rw [h4.2]; exact hr.own⟩
        · rcases (hl' i).1 h with h | ⟨p, hp, e⟩
          · exact .inl h
          · exact .inr ⟨_, memL p hp, e⟩
        · rcases h with h | h
          · exact (hl' i).2 (.inl h)
          · exact (hl' i).2 (.inr (idxL i h))
        · rw [h3]
          have := zip_full s.fs h2 rs.length
          rw [List.take_of_length_le (by rw [List.length_zip]; omega), List.take_of_length_le (Nat.le_refl _)] at this
          rw [← this]; exact hrel
      · rw [partI_none]
        · exact hr.rel
        · intro p hp
          have hp' := hA _ (memL p hp)
          exact (hun p.1 (Array.getElem?_eq_some_iff.1 (hop _ hp')).1).2 ⟨_, hp', rfl⟩
    simp only [regD] at h
    split at h
    · -- no call in place any more
      obtain ⟨rs, s', kw', h1, g1, l1, h2, h3, h4, h5⟩ := opsK_ok (P := P) (base := W0.heap.size) hT hS hkeys (todo.map (·.2)) s kw _ h hg hr.le
      split at h1
      · rename_i hseg
        refine part todo [] rs s' kw' (fun p hp => hp) hnd (fun p hp => .inl hp) l1 h2 h3 h4 h5 hseg (fun listed' j' a' w' hs' hc' hl' hat fuel' _ => ?_)
        refine wpAny_done ?_ (hK s' kw' ρ I j' a' w' h1 g1 (.of l1 _ _) hat) fuel'
        cases hrd : Region.ready .any ops listed' with
        | nil => rfl
        | cons i l =>
          exfalso
          have hi : i ∈ Region.ready .any ops listed' := by rw [hrd]; exact List.mem_cons_self
          obtain ⟨hu, o, ho, _⟩ := mem_ready.1 hi
          have hil := (Array.getElem?_eq_some_iff.1 ho).1
          have : listed'.getD i true = listed'.getD i false := by
            rw [Array.getD_eq_getD_getElem?, Array.getD_eq_getD_getElem?, Array.getElem?_eq_getElem (by omega)]; rfl
          rw [this] at hu
          have h6 : listed'.getD i false = true := by
            cases hbl : listed.getD i false with
            | true => exact (hl' i).2 (.inl hbl)
            | false => exact (hl' i).2 (.inr ((hun i hil).1 hbl))
          rw [h6] at hu; cases hu
      · exact h1.elim
    · rename_i ci co hbar
      have hmem := firstBar_mem hbar
      have hco := hop _ hmem
      obtain ⟨rs, s', kw', h1, g1, l1, h2, h3, h4, h5⟩ := opsK_ok (P := P) (base := W0.heap.size) hT hS hkeys _ s kw _ h hg hr.le
      split at h1
      · rename_i hseg
        have idxT : ∀ {p q : Nat × Oper}, p ∈ todo → q ∈ todo → p.1 = q.1 → p = q := by
          intro p q hp hq e
          have h6 := hop p hp
          have h7 := hop q hq
          rw [e, h7] at h6
          exact Prod.ext e (Option.some.inj h6).symm
        refine part _ _ rs s' kw' (fun p hp => (List.mem_filter.1 hp).1) (hnd.sublist (List.Sublist.map _ List.filter_sublist)) (fun p hp => ?_) l1 h2 h3 h4 h5 hseg (fun listed' j' a' w' hs' hc' hl' hat fuel' hf' => ?_)
        · by_cases e1 : p.1 = ci
          · exact .inr ⟨(ci, co), List.mem_cons_self, e1.symm⟩
          · have e2 : Nat.beq p.1 ci = false := by
              cases hb2 : Nat.beq p.1 ci with
              | false => rfl
              | true => exact absurd (Nat.eq_of_beq_eq_true hb2) e1
            cases hbit : bitOf (masksOf ops) p.1 ci with
            | false => exact .inl (List.mem_filter.2 ⟨hp, by simp [e2, hbit]⟩)
            | true => exact .inr ⟨p, List.mem_cons_of_mem _ (List.mem_filter.2 ⟨hp, by simp [e2, hbit]⟩), rfl⟩
        · -- only the call is ready
          have hcil : ci < ops.size := (Array.getElem?_eq_some_iff.1 hco).1
          have gd : ∀ i, i < ops.size → listed'.getD i true = listed'.getD i false := fun i hi => by
            rw [Array.getD_eq_getD_getElem?, Array.getD_eq_getD_getElem?, Array.getElem?_eq_getElem (by omega)]; rfl
          have left : ∀ i, i < ops.size → (listed'.getD i false = false ↔ (i = ci ∨ ∃ p ∈ todo.filter fun p => bitOf (masksOf ops) p.1 ci && !Nat.beq p.1 ci, p.1 = i)) := by
            intro i hi
            constructor
            · intro h6
              have h7 : listed.getD i false = false := by
                cases hbl : listed.getD i false with
                | false => rfl
                | true => rw [(hl' i).2 (.inl hbl)] at h6; cases h6
              obtain ⟨p, hp, rfl⟩ := (hun i hi).1 h7
              by_cases e1 : p.1 = ci
              · exact .inl e1
              · right
                have e2 : Nat.beq p.1 ci = false := by
                  cases hb2 : Nat.beq p.1 ci with
                  | false => rfl
                  | true => exact absurd (Nat.eq_of_beq_eq_true hb2) e1
                cases hbit : bitOf (masksOf ops) p.1 ci with
                | true => exact ⟨p, List.mem_filter.2 ⟨hp, by simp [e2, hbit]⟩, rfl⟩
                | false =>
                  exfalso
                  have := (hl' p.1).2 (.inr ⟨p, List.mem_filter.2 ⟨hp, by simp [e2, hbit]⟩, rfl⟩)
                  rw [this] at h6; cases h6
            · intro h6
              cases hbl : listed'.getD i false with
              | false => rfl
              | true =>
                exfalso
                rcases (hl' i).1 hbl with h7 | ⟨p, hp, e⟩
                · have hin : ∃ p ∈ todo, p.1 = i := by
                    rcases h6 with rfl | ⟨p, hp, e⟩
                    · exact ⟨_, hmem, rfl⟩
                    · exact ⟨p, (List.mem_filter.1 hp).1, e⟩
                  rw [(hun i hi).2 hin] at h7; cases h7
                · obtain ⟨hp1, hp2⟩ := List.mem_filter.1 hp
                  rcases h6 with rfl | ⟨q, hq, e2⟩
                  · rw [e] at hp2; simp at hp2
                  · obtain ⟨hq1, hq2⟩ := List.mem_filter.1 hq
                    have := idxT hp1 hq1 (e.trans e2.symm)
                    subst this
                    simp only [Bool.and_eq_true, Bool.not_eq_true'] at hp2 hq2
                    rw [hp2.2] at hq2
                    exact absurd hq2.1 (by simp)
          have hunc : listed'.getD ci false = false := (left ci hcil).2 (.inl rfl)
          have notB : ∀ i, listed'.getD i false = false → i < ops.size → i ≠ ci → ∀ o, ops[i]? = some o → ¬ ∀ e ∈ o.after, Region.binds .any e = true → listed'.getD e.on false = true := by
            intro i hu hil hne o ho hall
            rcases (left i hil).1 hu with h6 | ⟨p, hp, rfl⟩
            · exact hne h6
            · have h7 := (List.mem_filter.1 hp).2
              simp only [Bool.and_eq_true] at h7
              have := masks_forced _ _ h7.1 (fun i => listed'.getD i false) hc' (fun o' ho2 e he hb2 => by
                rw [ho] at ho2; cases ho2
                exact hall e he hb2)
              (try dsimp only at this)
              rw [hunc] at this; cases this
          obtain ⟨f, rfl⟩ : ∃ f, fuel' = f + 1 := by
            cases fuel' with
            | zero => have := cnt_set (ops := ops) hs' hcil hunc; omega
            | succ f => exact ⟨f, rfl⟩
          have step : wpOp P ops Q ci (wpAny P .any ops Q f (listed'.setIfInBounds ci true)) a' w' ∨ ¬ (∀ e ∈ co.after, Region.binds .any e = true → listed'.getD e.on false = true) := by
            by_cases hall : ∀ e ∈ co.after, Region.binds .any e = true → listed'.getD e.on false = true
            · left
              refine barK_ok hT hS hkeys hcl hco h1 g1 hat (fun s2 kw2 ρ2 I2 j2 a2 w2 q1 q2 q3 q4 => ?_)
              have hget : ∀ k, (listed'.setIfInBounds ci true).getD k false = if k = ci then true else listed'.getD k false := by
                intro k
                rw [Array.getD_eq_getD_getElem?, Array.getElem?_setIfInBounds]
                by_cases hk : k = ci
                · subst hk; simp [hs', hcil]
                · have hik : ¬ ci = k := fun e => hk e.symm
                  simp [hk, hik, Array.getD_eq_getD_getElem?]
              refine ih _ s2 kw2 k ρ2 I2 (listed'.setIfInBounds ci true) j2 a2 w2 q1 q2 q4 (fun p hp => hop p (List.mem_filter.1 hp).1) (hnd.sublist (List.Sublist.map _ List.filter_sublist)) (by simp [hs']) (closed_set hs' hco hc' hall) (fun i hi => ?_)
                (fun s3 kw3 ρ3 I3 j3 a3 w3 p1 p2 p3 p4 => hK s3 kw3 ρ3 I3 j3 a3 w3 p1 p2 ((Nx.of l1 _ _).trans (q3.trans p3)) p4) f (by have := cnt_set (ops := ops) hs' hcil hunc; omega)
              rw [hget]
              split
              · rename_i e
                subst e
                refine ⟨fun h => (by cases h), fun ⟨p, hp, e⟩ => ?_⟩
                have := (List.mem_filter.1 hp).2
                rw [e] at this
                simp at this
              · rename_i hne
                rw [left i hi]
                exact ⟨fun h => h.resolve_left hne, .inr⟩
            · exact .inr hall
          refine ⟨fun hnil => ?_, fun i hi => ?_⟩
          · exfalso
            -- the first that is left is ready
            have key : ∀ (k : Nat), k < ops.size → listed'.getD k false = false → False := by
              intro k
              induction k using Nat.strongRecOn with
              | _ k ihk =>
                intro hkl hku
                obtain ⟨o, ho⟩ : ∃ o, ops[k]? = some o := ⟨ops[k], Array.getElem?_eq_getElem hkl⟩
                have : k ∈ Region.ready .any ops listed' := by
                  rw [mem_ready]
                  refine ⟨by rw [gd k hkl]; exact hku, o, ho, fun e he hb2 => ?_⟩
                  have hlt := back_of hb ho e he hb2
                  cases hbl : listed'.getD e.on false with
                  | true => rfl
                  | false => exact (ihk e.on hlt (Nat.lt_trans hlt hkl) hbl).elim
                rw [hnil] at this
                cases this
            exact key ci hcil hunc
          · obtain ⟨hu, o, ho, hall⟩ := mem_ready.1 hi
            have hil := (Array.getElem?_eq_some_iff.1 ho).1
            rw [gd i hil] at hu
            by_cases hne : i = ci
            · subst hne
              rw [hco] at ho; cases ho
              rcases step with h6 | h6
              · exact h6
              · exact absurd hall h6
            · exact absurd hall (notB i hu hil hne o ho)
      · exact h1.elim
end
end Go.Proofs.Ytmkaphfdgdkaoaa

/- The symbolic run of a function's whole code, with calls in place, is sound. Nothing of the program is in here. -/
set_option linter.unusedVariables false
set_option linter.unusedSimpArgs false
namespace Go.Proofs.Ytmkaphfdgdkaoaa
open Go Go.RowKit

section
variable {P : Program} {sp : Spec} {ρ : Env} {G : Env → E → Prop} {I : Nat → List Dt → Prop} {cx : Cx} {cl : ClK} {n : Nat} {X : List Value} {W0 : World}

theorem head_nx {kw : Kw} {vks : List VK} {ρ ρ2 : Env} {I : Nat → List Dt → Prop} (h : Ag kw.vk.length ρ ρ2) : Nx kw (kw.head vks) ρ ρ2 I I := ⟨h, fun _ _ => rfl, by simp [Kw.head], by simp [Kw.head]⟩
theorem codeK_ok (hcl : CallOk P sp G cx cl) (hm : P.follows .mixedOrders = true) (hT : ∀ t i, (t, i) ∈ cx.ty → TIok P t i) (hS : ∀ s ∈ cx.sm, SmOk P sp s) (hkeys : ∀ s ∈ cx.sm, ∀ s' ∈ cx.sm, s.key = s'.key → s = s') (fuel : Nat) :
    ∀ (c : Code) (s : St) (kw : Kw) (k : Sig → St → Kw → Tr) (Q : Exit → Act → World → Prop) (ρ : Env) (I : Nat → List Dt → Prop) (j : J) (a : Act) (w : World), (codeK cl cx fuel c s kw k).holds sp G ρ I → Good sp cx.sm ρ kw → At cx ρ n X W0 s j a w →
      (∀ sg s' kw' ρ' I' j' a' w', (k sg s' kw').holds sp G ρ' I' → Good sp cx.sm ρ' kw' → Ag kw.vk.length ρ ρ' → (∀ m, m < kw.lv → I' m = I m) → kw.lv ≤ kw'.lv → kw.vk.length ≤ kw'.vk.length → At cx ρ' n X W0 s' j' a' w' → Q sg.exit' a' w') → c.wp P Q a w := by
  intro c
  induction c with
  | skip => intro s kw k Q ρ I j a w h hg hr hQ; exact wp_skip (hQ _ _ _ _ _ _ _ _ h hg (.refl _ _) (fun _ _ => rfl) (Nat.le_refl _) (Nat.le_refl _) hr)
  | label l => intro s kw k Q ρ I j a w h hg hr hQ; exact wp_label (hQ _ _ _ _ _ _ _ _ h hg (.refl _ _) (fun _ _ => rfl) (Nat.le_refl _) (Nat.le_refl _) hr)
  | exit id => intro s kw k Q ρ I j a w h hg hr hQ; exact wp_exit (hQ (.exit id) _ _ _ _ _ _ _ h hg (.refl _ _) (fun _ _ => rfl) (Nat.le_refl _) (Nat.le_refl _) hr)
  | ret => intro s kw k Q ρ I j a w h hg hr hQ; exact wp_ret (hQ .ret _ _ _ _ _ _ _ h hg (.refl _ _) (fun _ _ => rfl) (Nat.le_refl _) (Nat.le_refl _) hr)
  | scope c ih =>
    intro s kw k Q ρ I j a w h hg hr hQ
    refine wp_scope_straight (ih s kw k _ ρ I j a w h hg hr fun sg s' kw' ρ' I' j' a' w' q1 q2 q3 q4 q5 q6 q7 => ?_)
    have := hQ sg s' kw' ρ' I' j' a' w' q1 q2 q3 q4 q5 q6 q7
    cases sg <;> exact this
  | region id ops draw =>
    intro s kw k Q ρ I j a w h hg hr hQ
    simp only [codeK] at h
    split at h
    · obtain ⟨rs, s', kw', h1, g1, l1, h2, h3, h4, h5⟩ := opsK_ok (P := P) (base := W0.heap.size) hT hS hkeys ops.toList s kw _ h hg hr.le
      rw [hr.own] at h5
      have fin : ∀ j' a' w', (k .normal s' kw').holds sp G ρ I → Rel ρ n X W0 cx.fbs (full rs s.fs) j' a' w' → Q .normal a' w' := fun j' a' w' hk hr' =>
        hQ .normal s' kw' ρ I j' a' w' hk g1 (.refl _ _) (fun _ _ => rfl) (by rw [l1.lv]; exact Nat.le_refl _) l1.vk ⟨by rw [h3]; exact hr', by rw [h4.1]; exact hr.len, by rw [h4.2]; exact hr.own⟩
      cases draw with
      | false =>
        refine wp_region ?_
        have hsz : ops.size = rs.length := by rw [← Array.length_toList, ← h2, List.length_map]
        rw [hsz, List.range_eq_range']
        exact region_seq (P := P) rs [] s.fs (by simpa using h2.symm) (by simpa using h5) (by simpa [full] using hr.rel) (fun j' a' w' hr' => fin j' a' w' h1 (by simpa using hr'))
      | true =>
        simp only [if_true] at h1
        split at h1
        · rename_i hord
          obtain ⟨g2, g3⟩ := ordK_ok (ops := ops) idx_of rs [] [] (by simpa using h2.symm) hord rfl (fun i hi => by simp at hi)
          refine wp_region_any hm ?_
          have hsz : ops.size = rs.length := by rw [← Array.length_toList, ← h2, List.length_map]
          refine region_any (F0 := s.fs) (L := rs) h2.symm h5 (fun i o ho e he hb => ?_) (fun k i x r hk hx hri => by simpa using g3 k i x r hk (Nat.zero_le _) (by simpa using hx) (by simpa using hri)) (fun j' a' w' hr' => fin j' a' w' h1 hr') ops.size (Array.replicate ops.size false) j a _ (by simp [hsz]) ?_ ?_ ?_
          · have hlt : i < rs.length := by
              rw [← hsz]
              rcases Nat.lt_or_ge i ops.size with h6 | h6
              · exact h6
              · rw [Array.getElem?_eq_none h6] at ho; cases ho
            have hri : rs[i]? = some rs[i] := List.getElem?_eq_getElem hlt
            have := idx_of i _ rs h2.symm hri
            rw [ho] at this
            cases this
            exact g2 i _ (Nat.zero_le _) (by simp) e he hb
          · intro i o _ hs
            simp only [Array.getD_eq_getD_getElem?, Array.getElem?_replicate] at hs
            split at hs <;> simp at hs
          · exact Nat.le_trans List.countP_le_length (by simp [hsz])
          · rw [part_none rs 0 s.fs (fun m hm => by
              simp only [Array.getD_eq_getD_getElem?, Array.getElem?_replicate]
              split <;> simp)]
            exact hr.rel.more (Ext.refl w).drew
        · exact h1.elim
    · have hK : ∀ s' kw' ρ' I' j' a' w', (k .normal s' kw').holds sp G ρ' I' → Good sp cx.sm ρ' kw' → Nx kw kw' ρ ρ' I I' → At cx ρ' n X W0 s' j' a' w' → Q .normal a' w' :=
        fun s' kw' ρ' I' j' a' w' q1 q2 q3 q4 => hQ .normal s' kw' ρ' I' j' a' w' q1 q2 q3.ag q3.inv q3.lv q3.vk q4
      cases draw with
      | false =>
        refine wp_region ?_
        rw [List.range_eq_range', ← Array.length_toList]
        exact regS_ok hT hS hkeys hcl ops.toList 0 (fun m o hm => by rw [Nat.zero_add, ← Array.getElem?_toList]; exact hm) s kw _ ρ I j a w h hg hr hK
      | true =>
        simp only [if_true] at h
        split at h
        · rename_i hb
          refine wp_region_any hm ?_
          refine wpAny_monoQ (Q := fun e a w => e = .normal ∧ Q .normal a w) (fun e a w h => by rw [h.1]; exact h.2) _ _ _ _ ?_
          have hnd : ((enumF 0 ops.toList).map (·.1)).Nodup := by rw [enumF_fst]; exact List.nodup_range'
          have gd : ∀ i, i < ops.size → (Array.replicate ops.size false).getD i false = false := fun i hi => by
            rw [Array.getD_eq_getD_getElem?, Array.getElem?_replicate, if_pos hi]; rfl
          refine regD_ok (W0 := W0) (n := n) (X := X) hT hS hkeys hcl hb (fun c a w h => by cases h.1) _ _ s kw _ ρ I _ j a _ h hg ⟨hr.rel.more (Ext.refl w).drew, hr.len, hr.own⟩ (fun p hp => enumF_mem hp) hnd (by simp) ?_ (fun i hi => ⟨fun _ => ?_, fun _ => gd i hi⟩)
            (fun s' kw' ρ' I' j' a' w' q1 q2 q3 q4 => ⟨rfl, hK s' kw' ρ' I' j' a' w' q1 q2 q3 q4⟩) ops.size ?_
          · intro i o ho hs
            have := gd i (Array.getElem?_eq_some_iff.1 ho).1
            exact Bool.noConfusion (hs.symm.trans this)
          · have : i ∈ (enumF 0 ops.toList).map (·.1) := by rw [enumF_fst, List.mem_range'_1]; simp; exact hi
            obtain ⟨p, hp, e⟩ := List.mem_map.1 this
            exact ⟨p, hp, e⟩
          · exact Nat.le_trans List.countP_le_length (by simp)
        · exact h.elim
  | seq x y ihx ihy =>
    intro s kw k Q ρ I j a w h hg hr hQ
    simp only [codeK] at h
    split at h
    · refine wp_seq (ihx s kw _ _ ρ I j a w h hg hr (fun sg s' kw' ρ' I' j' a' w' h' hg' ha' hI' hl' hv' hr' => ?_))
      cases sg with
      | normal => exact ihy s' kw' k Q ρ' I' j' a' w' h' hg' hr' (fun sg s2 kw2 ρ2 I2 j2 a2 w2 h2 hg2 ha2 hI2 hl2 hv2 hr2 => hQ sg s2 kw2 ρ2 I2 j2 a2 w2 h2 hg2 (ha'.trans (ha2.mono hv')) (fun m hm => (hI2 m (by omega)).trans (hI' m hm)) (by omega) (by omega) hr2)
      | exit id => exact hQ (.exit id) s' kw' ρ' I' j' a' w' h' hg' ha' hI' hl' hv' hr'
      | ret => exact hQ .ret s' kw' ρ' I' j' a' w' h' hg' ha' hI' hl' hv' hr'
    · rename_i id pls _
      split at h
      · refine wp_seq (ihx s kw _ _ ρ I j a w h hg hr (fun sg s' kw' ρ' I' j' a' w' h' hg' ha' hI' hl' hv' hr' => ?_))
        cases sg with
        | normal => exact h'.elim
        | exit id => exact hQ (.exit id) s' kw' ρ' I' j' a' w' h' hg' ha' hI' hl' hv' hr'
        | ret => exact hQ .ret s' kw' ρ' I' j' a' w' h' hg' ha' hI' hl' hv' hr'
      · split at h
        · rename_i hd vks habs
          have hlen : hd.tmps.length = n + X.length ∧ hd.n = n := ⟨(absL_len habs).1.trans hr.len, (absL_len habs).2.trans hr.own⟩
          obtain ⟨inv, hpre, hbody⟩ := h
          refine wp_seq (ihx s { kw with lv := kw.lv + 1 } _ _ ρ (upd I kw.lv inv) j a w hpre ⟨hg.pc, hg.vk, hg.log⟩ hr (fun sg s' kw' ρ' I' j' a' w' h' hg' ha' hI' hl' hv' hr' => ?_))
          have below : ∀ m, m < kw.lv → I' m = I m := fun m hm => (hI' m (by show m < kw.lv + 1; omega)).trans (upd_other I inv (by omega))
          cases sg with
          | normal =>
            obtain ⟨ds, h1, h2, j3, h3⟩ := nextK_ok (ρ := ρ) h' hg'.vk hlen ha' hr'
            rw [hI' kw.lv (Nat.lt_succ_self _), upd_same] at h1
            obtain ⟨ρ2, g1, g2, g3⟩ := hbody ds h2 h1
            refine ihy hd (kw.head vks) k Q ρ2 I j3 a' w' g3 (head_good hg g1 (by rw [g2]; exact h2)) (h3 ρ2 g1 g2) (fun sg s2 kw2 ρ3 I2 j2 a2 w2 h2 hg2 ha2 hI2 hl2 hv2 hr2 => hQ sg s2 kw2 ρ3 I2 j2 a2 w2 h2 hg2 (g1.trans (ha2.mono ?_)) (fun m hm => hI2 m ?_) ?_ ?_ hr2)
            · simp [Kw.head]
            · show m < kw.lv + 1; omega
            · have : kw.lv + 1 ≤ kw2.lv := hl2
              omega
            · have : (kw.vk ++ vks).length ≤ kw2.vk.length := hv2
              rw [List.length_append] at this
              omega
          | exit id => exact hQ (.exit id) s' kw' ρ' I' j' a' w' h' hg' ha' below (by have : kw.lv + 1 ≤ kw'.lv := hl'; omega) hv' hr'
          | ret => exact hQ .ret s' kw' ρ' I' j' a' w' h' hg' ha' below (by have : kw.lv + 1 ≤ kw'.lv := hl'; omega) hv' hr'
        · exact h.elim
  | cond c x y ihx ihy =>
    intro s kw k Q ρ I j a w h hg hr hQ
    simp only [codeK] at h
    split at h
    · rename_i e he
      have hc : a.eval c = .bool (e.B ρ) := by
        exact one_bool (hr.ev he)
      obtain ⟨kw1, h1, g1, v1, l1⟩ := decK_ok _ _ _ h hg
      have hQ' : ∀ sg s' kw' ρ' I' j' a' w', (k sg s' kw').holds sp G ρ' I' → Good sp cx.sm ρ' kw' → Ag kw1.vk.length ρ ρ' → (∀ m, m < kw1.lv → I' m = I m) → kw1.lv ≤ kw'.lv → kw1.vk.length ≤ kw'.vk.length → At cx ρ' n X W0 s' j' a' w' → Q sg.exit' a' w' := by
        intro sg s' kw' ρ' I' j' a' w' h' hg' ha' hI' hl' hv' hr'
        rw [v1] at ha' hv'
        rw [l1.lv] at hI' hl'
        exact hQ sg s' kw' ρ' I' j' a' w' h' hg' ha' hI' hl' hv' hr'
      refine wp_cond_split hc (fun ht => ?_) (fun ht => ?_)
      · rw [ht] at h1
        exact ihx s kw1 k Q ρ I j a w h1 g1 hr hQ'
      · rw [ht] at h1
        exact ihy s kw1 k Q ρ I j a w h1 g1 hr hQ'
    · exact h.elim
  | block id c ih =>
    intro s kw k Q ρ I j a w h hg hr hQ
    refine wp_block (ih s kw _ _ ρ I j a w h hg hr (fun sg s' kw' ρ' I' j' a' w' h' hg' ha' hI' hl' hv' hr' => ?_))
    cases sg with
    | normal => exact hQ .normal s' kw' ρ' I' j' a' w' h' hg' ha' hI' hl' hv' hr'
    | ret => exact hQ .ret s' kw' ρ' I' j' a' w' h' hg' ha' hI' hl' hv' hr'
    | exit i =>
      dsimp only at h'
      unfold Sig.exit' Exit.inBlock
      dsimp only
      split at h'
      · rename_i hi
        rw [if_pos (Nat.eq_of_beq_eq_true hi)]
        exact hQ .normal s' kw' ρ' I' j' a' w' h' hg' ha' hI' hl' hv' hr'
      · rename_i hi
        rw [if_neg (fun e => hi (by rw [e]; simp))]
        exact hQ (.exit i) s' kw' ρ' I' j' a' w' h' hg' ha' hI' hl' hv' hr'
  | loop c ih =>
    intro s kw k Q ρ I j a w h hg hr hQ
    simp only [codeK] at h
    split at h
    · refine wp_loop_rounds fuel ?_
      have key : ∀ (m : Nat) (s : St) (kw2 : Kw) (ρ2 : Env) (I2 : Nat → List Dt → Prop) (j : J) (a : Act) (w : World), (loopN (codeK cl cx fuel c) m s kw2 k).holds sp G ρ2 I2 → Good sp cx.sm ρ2 kw2 → Ag kw.vk.length ρ ρ2 → (∀ m, m < kw.lv → I2 m = I m) → kw.lv ≤ kw2.lv → kw.vk.length ≤ kw2.vk.length → At cx ρ2 n X W0 s j a w → Code.rounds P c Q m a w := by
        intro m
        induction m with
        | zero => intro s kw2 ρ2 I2 j a w h; exact h.elim
        | succ m ihm =>
          intro s kw2 ρ2 I2 j a w h hg ha2 hI2 hl2 hv2 hr
          rw [rounds_succ]
          simp only [loopN] at h
          refine ih s kw2 _ _ ρ2 I2 j a w h hg hr (fun sg s' kw' ρ' I' j' a' w' h' hg' ha' hI' hl' hv' hr' => ?_)
          have ha3 : Ag kw.vk.length ρ ρ' := ha2.trans (ha'.mono hv2)
          have hI3 : ∀ m, m < kw.lv → I' m = I m := fun m hm => (hI' m (by omega)).trans (hI2 m hm)
          cases sg with
          | normal => exact ihm s' kw' ρ' I' j' a' w' h' hg' ha3 hI3 (by omega) (by omega) hr'
          | exit id => exact hQ (.exit id) s' kw' ρ' I' j' a' w' h' hg' ha3 hI3 (by omega) (by omega) hr'
          | ret => exact hQ .ret s' kw' ρ' I' j' a' w' h' hg' ha3 hI3 (by omega) (by omega) hr'
      exact key fuel s kw ρ I j a w h hg (.refl _ _) (fun _ _ => rfl) (Nat.le_refl _) (Nat.le_refl _) hr
    · rename_i id pls _
      split at h
      · exact h.elim
      · split at h
        · rename_i hd vks θ ex habs harg
          split at h
          · rename_i hok
            have hlen : hd.tmps.length = n + X.length ∧ hd.n = n := ⟨(absL_len habs).1.trans hr.len, (absL_len habs).2.trans hr.own⟩
            obtain ⟨inv, μ, hinit, hbody⟩ := h
            obtain ⟨d1, d2⟩ := match_head hok hg.vk hlen (.refl _ _) hr
            have key : ∀ (m : Nat) (ds : List Dt) (a : Act) (w : World), μ ds < m → inv ds → okDs vks ds → HeadAt cx n X W0 ρ kw.vk.length vks hd ds a w → Code.rounds P c Q m a w := by
              intro m
              induction m with
              | zero => intro ds a w h; omega
              | succ m ihm =>
                intro ds a w hμ hin hds hat
                rw [rounds_succ]
                obtain ⟨ρ2, g1, g2, g3⟩ := hbody ds hds hin
                obtain ⟨j2, hj2⟩ := hat
                refine ih hd (kw.head vks) _ _ ρ2 _ j2 a w g3 (head_good hg g1 (by rw [g2]; exact hds)) (hj2 ρ2 g1 g2) (fun sg s' kw' ρ' I' j' a' w' h' hg' ha' hI' hl' hv' hr' => ?_)
                have hv2 : kw.vk.length ≤ (kw.head vks).vk.length := by simp [Kw.head]
                have ha3 : Ag kw.vk.length ρ ρ' := g1.trans (ha'.mono hv2)
                have hI3 : ∀ m, m < kw.lv → I' m = I m := fun m hm => (hI' m (by show m < kw.lv + 1; omega)).trans (upd_other I _ (by omega))
                have hl3 : kw.lv ≤ kw'.lv := by have : kw.lv + 1 ≤ kw'.lv := hl'; omega
                have hv3 : kw.vk.length ≤ kw'.vk.length := by omega
                cases sg with
                | normal =>
                  obtain ⟨ds', k1, k2, k3⟩ := nextK_ok (ρ := ρ) h' hg'.vk hlen ha3 hr'
                  rw [hI' kw.lv (Nat.lt_succ_self _), upd_same] at k1
                  exact ihm ds' a' w' (by omega) k1.1 k2 k3
                | exit id => exact hQ (.exit id) s' kw' ρ' I' j' a' w' h' hg' ha3 hI3 hl3 hv3 hr'
                | ret => exact hQ .ret s' kw' ρ' I' j' a' w' h' hg' ha3 hI3 hl3 hv3 hr'
            exact wp_loop_rounds (μ ((argE vks θ).D ρ) + 1) (key _ _ a w (Nat.lt_succ_self _) hinit d1 d2)
          · exact h.elim
        · exact h.elim
  | _ => intro s kw k Q ρ I j a w h; exact h.elim
end
end Go.Proofs.Ytmkaphfdgdkaoaa
