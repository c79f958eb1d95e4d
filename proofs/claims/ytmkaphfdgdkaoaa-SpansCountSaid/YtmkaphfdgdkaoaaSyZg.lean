/- Texts SyG, SyG2, SyG3 in one. -/
import Derived.Test.YtmkaphfdgdkaoaaSyF
/- The run of an operation is sound: indices and pointers into rows, loads and stores there. Nothing of the program is in here. -/
set_option linter.unusedVariables false
set_option linter.unusedSimpArgs false
namespace Go.Proofs.Ytmkaphfdgdkaoaa
open Go.RowKit

section
variable {P : Program} {sp : Spec} {ρ : Env} {G : Env → E → Prop} {I : Nat → List Dt → Prop} {base : Nat} {cx : Cx} {vw : Vw} {o : Oper} {k : Eff → Kw → Tr}

theorem pickK_ok {e : E} {n : Nat} {kk : Nat → Kw → Tr} : ∀ (m : Nat) (kw : Kw), m ≤ n → (pickK e n kk m kw).holds sp G ρ I → Good sp cx.sm ρ kw → ∃ i kw', i < n ∧ e.I ρ = (i : Int) ∧ (kk i kw').holds sp G ρ I ∧ Good sp cx.sm ρ kw' ∧ KwGe kw' kw
  | 0, kw, _, h, hg => h.elim
  | m + 1, kw, hm, h, hg => by
    simp only [pickK] at h
    obtain ⟨kw1, h1, g1, _, l1⟩ := decK_ok _ _ _ h hg
    rw [mkEq_B] at h1
    split at h1
    · rename_i hb
      have hb' : e.I ρ = ((n - (m + 1) : Nat) : Int) := by simpa [E.I] using hb
      exact ⟨n - (m + 1), kw1, by omega, hb', h1, g1, l1⟩
    · obtain ⟨i, kw2, h2, h3, h4, g2, l2⟩ := pickK_ok m kw1 (by omega) h1 g1
      exact ⟨i, kw2, h2, h3, h4, g2, l2.trans l1⟩

theorem snd_indexAddr (hT : ∀ t i, (t, i) ∈ cx.ty → TIok P t i) {t : Nat} {x y : Operand} {kw : Kw} (hop : o.op = .indexAddr t x y) {c : C} {c' : Nat → C} (hx : vw.ev x = some (.one c)) {k0 : IntKind} {e : E} (hy : vw.ev y = some (.one (.int k0 e))) {i : TI} (hi : lookN t cx.ty = some i)
    {n et : Nat} (ha : i.arr = some (n, et)) {ie : TI} (hie : lookN et cx.ty = some ie) (hmv : ∀ m j v, c.den ρ j = some v → ∃ a, v = .pointer (some a) ∧ (c' m).den ρ j = some (.pointer (some (a.add (m * ie.size)))))
    (h : (pickK e n (fun m kw => k { val := .one (c' m) } kw) n kw).holds sp G ρ I) (hg : Good sp cx.sm ρ kw) : Sound P sp ρ G I base cx vw o k kw := by
  obtain ⟨m, kw', hm, he, h1, g1, l1⟩ := pickK_ok n kw (Nat.le_refl _) h hg
  have hu := (hT _ _ (lookN_mem hi)).arr n et ha
  have hs := (hT _ _ (lookN_mem hie)).size
  refine ⟨_, kw', h1, g1, l1, OpOk.pure fun j a w _ hev _ _ _ => ?_⟩
  obtain ⟨p, hp, hd⟩ := hmv m j _ (hev x (by simp [hop, Op.operands]) _ hx)
  have hq := one_int (hev y (by simp [hop, Op.operands]) _ hy)
  refine ⟨_, hd, ?_⟩
  have hlt : (0 : Int) ≤ (m : Int) ∧ (m : Int) < (n : Int) := by omega
  simp [execOp, hop, hp, hq, he, Instr.indexAt, run_underlying hu, Instr.sureAddr, asIntOf, hlt, hs, Sem.run_bind]
  omega

theorem snd_index (hT : ∀ t i, (t, i) ∈ cx.ty → TIok P t i) {t : Nat} {x y : Operand} {kw : Kw} (hop : o.op = .index t x y) {cs : List C} (hx : vw.ev x = some (.agg cs)) {k0 : IntKind} {e : E} (hy : vw.ev y = some (.one (.int k0 e))) {i : TI} (hi : lookN t cx.ty = some i)
    {n et : Nat} (ha : i.arr = some (n, et)) {ie : TI} (hie : lookN et cx.ty = some ie) (h : (pickK e n (fun m kw => match partV cx et cs (m * ie.size) with | some v => k { val := v } kw | none => .stuck 30) n kw).holds sp G ρ I) (hg : Good sp cx.sm ρ kw) : Sound P sp ρ G I base cx vw o k kw := by
  obtain ⟨m, kw', hm, he, h1, g1, l1⟩ := pickK_ok n kw (Nat.le_refl _) h hg
  have hu := (hT _ _ (lookN_mem hi)).arr n et ha
  have hs := (hT _ _ (lookN_mem hie)).size
  split at h1
  · rename_i v hv
    refine ⟨_, kw', h1, g1, l1, OpOk.pure fun j a w _ hev _ _ _ => ?_⟩
    have hd := hev x (by simp [hop, Op.operands]) _ hx
    simp only [V.den, Option.map_eq_some_iff] at hd
    obtain ⟨vs, hvs, hp⟩ := hd
    have hq := one_int (hev y (by simp [hop, Op.operands]) _ hy)
    obtain ⟨u, hu', hr⟩ := part_ok hT hv hvs w
    refine ⟨u, hu', ?_⟩
    have hlt : (0 : Int) ≤ (m : Int) ∧ (m : Int) < (n : Int) := by omega
    simp [execOp, hop, ← hp, hq, he, Instr.index, run_underlying hu, asIntOf, hlt, hs, Sem.run_bind, hr]
    omega
  · exact h1.elim

theorem inB_B (ρ : Env) (e l : E) : (inB e l).B ρ = (decide (0 ≤ e.I ρ) && decide (e.I ρ < ((l.R ρ).length : Int))) := by
  simp only [inB, mkAnd_B, mkNot_B, mkLt_B, mkLen_I, E.I]
  rw [not_lt_le]
  rfl

theorem snd_indexRow (hT : ∀ t i, (t, i) ∈ cx.ty → TIok P t i) {t : Nat} {x y : Operand} {kw : Kw} (hop : o.op = .indexAddr t x y) {id : Nat} (hx : vw.ev x = some (.one (.sl id))) {k0 : IntKind} {e : E} (hy : vw.ev y = some (.one (.int k0 e))) {i : TI} (hi : lookN t cx.ty = some i)
    {et : Nat} (ha : i.sle = some et) {ie : TI} (hie : lookN et cx.ty = some ie) {r : RowOb} (hr : vw.sw id = some r) (hks : r.ks.length = ie.size)
    (h : (decK (inB e r.l) (fun b kw => if b then k { val := .one (.ep id ie.size e 0), rr := [id] } kw else .panic) kw).holds sp G ρ I) (hg : Good sp cx.sm ρ kw) : Sound P sp ρ G I base cx vw o k kw := by
  obtain ⟨kw', h1, g1, _, l1⟩ := decK_ok _ _ _ h hg
  rw [inB_B] at h1
  split at h1
  · rename_i hb
    simp only [Bool.and_eq_true, decide_eq_true_eq] at hb
    refine ⟨_, kw', h1, g1, l1, OpOk.pure fun j a w _ hev _ hrr _ => ?_⟩
    obtain ⟨s, hs, hok⟩ := hrr.sl id (by simp) r hr
    have hd := hev x (by simp [hop, Op.operands]) _ hx
    simp only [V.den, C.den, hs, Option.map_some, Option.some.injEq] at hd
    have hq := one_int (hev y (by simp [hop, Op.operands]) _ hy)
    have hu := (hT _ _ (lookN_mem hi)).sle et ha
    have hsz := (hT _ _ (lookN_mem hie)).size
    obtain ⟨sa, sn, sc⟩ := s
    have hn := hok.n
    simp only at hn
    have hrd := hok.rd
    cases sa with
    | none => have := (hrd.2.2.2.1 rfl).1; simp only at this; omega
    | some p =>
      refine ⟨.pointer (some (p.add ((e.I ρ).toNat * ie.size + 0))), by simp [V.den, C.den, hs, SV.elem], ?_⟩
      have hlt : (0 : Int) ≤ e.I ρ ∧ e.I ρ < (sn : Int) := by omega
      simp [execOp, hop, ← hd, SV.v, hq, Instr.indexAt, run_underlying hu, asIntOf, hlt, hsz, Sem.run_bind]
  · exact h1.elim

theorem run_loadVals {a : Addr} {w : World} : ∀ (vs : List Value) (i : Nat) (acc : Array Value), (∀ m u, vs[m]? = some u → w.cell? (a.add (i + m)) = some u) → (loadCellsFrom a i vs.length acc).run P w = .ok (acc ++ vs.toArray) w
  | [], i, acc, _ => by simp [loadCellsFrom]
  | v :: vs, i, acc, h => by
    have h0 := h 0 v rfl
    simp only [Nat.add_zero] at h0
    simp only [List.length_cons, loadCellsFrom, Sem.run_bind, load, Sem.run, h0, Result.andThen_ok]
    rw [run_loadVals vs (i + 1) _ (fun m u hu => by rw [Nat.add_assoc, Nat.add_comm 1 m]; exact h (m + 1) u (by simpa using hu))]
    simp
theorem run_loadOne {a : Addr} {w : World} {u : Value} (h : w.cell? a = some u) : (load a).run P w = .ok u w := by simp [load, Sem.run, h]

theorem denL_of_get {j : J} : ∀ {cs : List C} {vs : List Value}, cs.length = vs.length → (∀ (m : Nat) c, cs[m]? = some c → ∃ u, vs[m]? = some u ∧ c.den ρ j = some u) → denL ρ j cs = some vs
  | [], vs, hl, _ => by
    cases vs with
    | nil => rfl
    | cons => cases hl
  | c :: cs, vs, hl, h => by
    cases vs with
    | nil => cases hl
    | cons v vs =>
      obtain ⟨u, hu, hd⟩ := h 0 c rfl
      simp only [List.getElem?_cons_zero, Option.some.injEq] at hu
      subst hu
      have := denL_of_get (cs := cs) (vs := vs) (by simpa using hl) (fun m c hm => by simpa using h (m + 1) c (by simpa using hm))
      simp [denL, hd, this]
theorem rowOf_get {ld : Nat → Nat → Option C} {b : Nat} : ∀ (n o : Nat) (cs : List C), rowOf ld b o n = some cs → cs.length = n ∧ ∀ m c, cs[m]? = some c → ld b (o + m) = some c
  | 0, o, cs, h => by cases h; exact ⟨rfl, fun m c hm => by simp at hm⟩
  | n + 1, o, cs, h => by
    simp only [rowOf] at h
    cases hc : ld b o with
    | none => rw [hc] at h; cases h
    | some c =>
      cases hl : rowOf ld b (o + 1) n with
      | none => rw [hc, hl] at h; cases h
      | some l =>
        rw [hc, hl] at h; cases h
        obtain ⟨h1, h2⟩ := rowOf_get n (o + 1) l hl
        refine ⟨by simp [h1], fun m c' hm => ?_⟩
        cases m with
        | zero => simp at hm; subst hm; exact hc
        | succ m => rw [show o + (m + 1) = o + 1 + m by omega]; exact h2 m c' (by simpa using hm)

theorem fp_of {j : J} {b off : Nat} {v : Value} (h : (V.one (.fp b off)).den ρ j = some v) : ∃ kk, j.f b = some kk ∧ v = .pointer (some ⟨kk, off, none⟩) := by
  simp only [V.den, C.den, Option.map_eq_some_iff] at h
  obtain ⟨kk, hk, rfl⟩ := h
  exact ⟨kk, hk, rfl⟩
theorem snd_loadF_row (hT : ∀ t i, (t, i) ∈ cx.ty → TIok P t i) {t : Nat} {x : Operand} {kw : Kw} (hop : o.op = .load t x) {b off : Nat} (hx : vw.ev x = some (.one (.fp b off))) {i : TI} (hi : lookN t cx.ty = some i) (hagg : i.agg = true) {cs : List C} (hcs : rowOf (fun b o => (vw.fb b).bind (·[o]?)) b off i.size = some cs)
    (h : (k { val := .agg cs } kw).holds sp G ρ I) (hg : Good sp cx.sm ρ kw) : Sound P sp ρ G I base cx vw o k kw := by
  refine ⟨_, kw, h, hg, .refl _, OpOk.pure fun j a w _ hev _ _ hfb => ?_⟩
  have ht := hT _ _ (lookN_mem hi)
  obtain ⟨kk, hk, he⟩ := fp_of (hev x (by simp [hop, Op.operands]) _ hx)
  obtain ⟨hlen, hget⟩ := rowOf_get _ _ _ hcs
  by_cases h0 : i.size = 0
  · have hnil : cs = [] := List.eq_nil_of_length_eq_zero (by omega)
    subst hnil
    refine ⟨.agg #[], rfl, ?_⟩
    simp [execOp, hop, he, Instr.loadAt, Instr.sureAddr, Sem.run_bind, loadVar, ht.agg, hagg, ht.size, loadCells, h0, loadCellsFrom]
  have hcont : ∃ c0, vw.fb b = some c0 := by
    cases hb : vw.fb b with
    | some c0 => exact ⟨c0, rfl⟩
    | none =>
      exfalso
      have h1 : 0 < cs.length := by omega
      have := hget 0 cs[0] (List.getElem?_eq_getElem h1)
      simp [hb] at this
  obtain ⟨c0, hc0⟩ := hcont
  obtain ⟨kk', vs, h1, _, h2, h3⟩ := hfb b c0 hc0
  rw [hk] at h1; cases h1
  have hv : ∀ m c, cs[m]? = some c → ∃ u, vs[off + m]? = some u ∧ c.den ρ j = some u := fun m c hm => by
    have := hget m c hm
    simp only [hc0, Option.bind_some] at this
    exact denL_get h2 (off + m) c this
  have hus : denL ρ j cs = some ((vs.drop off).take i.size) := by
    refine denL_of_get ?_ (fun m c hm => ?_)
    · rw [List.length_take, List.length_drop, hlen]
      obtain ⟨u, hu, _⟩ := hv (cs.length - 1) cs[cs.length - 1] (List.getElem?_eq_getElem (by omega))
      have := (List.getElem?_eq_some_iff.1 hu).1
      omega
    · obtain ⟨u, hu, hd⟩ := hv m c hm
      refine ⟨u, ?_, hd⟩
      have hlt := (List.getElem?_eq_some_iff.1 hm).1
      rw [List.getElem?_take, if_pos (by omega), List.getElem?_drop]
      exact hu
  have hl := denL_length hus
  refine ⟨_, by simp only [V.den, hus]; rfl, ?_⟩
  have h4 := run_loadVals (P := P) (a := ⟨kk, off, none⟩) (w := w) ((vs.drop off).take i.size) 0 #[] (fun m u hu => by
    rw [add_none, Nat.zero_add]
    have hlt : m < i.size := by
      have := (List.getElem?_eq_some_iff.1 hu).1
      rw [List.length_take] at this; omega
    rw [List.getElem?_take, if_pos hlt, List.getElem?_drop] at hu
    exact h3 _ u hu)
  rw [hl, hlen] at h4
  simp [execOp, hop, he, Instr.loadAt, Instr.sureAddr, Sem.run_bind, loadVar, ht.agg, hagg, ht.size, loadCells, h4]
theorem snd_loadF_one (hT : ∀ t i, (t, i) ∈ cx.ty → TIok P t i) {t : Nat} {x : Operand} {kw : Kw} (hop : o.op = .load t x) {b off : Nat} (hx : vw.ev x = some (.one (.fp b off))) {i : TI} (hi : lookN t cx.ty = some i) (hagg : ¬ i.agg = true) {c : C} (hc : (vw.fb b).bind (·[off]?) = some c)
    (h : (k { val := .one c } kw).holds sp G ρ I) (hg : Good sp cx.sm ρ kw) : Sound P sp ρ G I base cx vw o k kw := by
  refine ⟨_, kw, h, hg, .refl _, OpOk.pure fun j a w _ hev _ _ hfb => ?_⟩
  have ht := hT _ _ (lookN_mem hi)
  obtain ⟨kk, hk, he⟩ := fp_of (hev x (by simp [hop, Op.operands]) _ hx)
  rw [Option.bind_eq_some_iff] at hc
  obtain ⟨c0, hc0, hc⟩ := hc
  obtain ⟨kk', vs, h1, _, h2, h3⟩ := hfb b c0 hc0
  rw [hk] at h1; cases h1
  obtain ⟨u, hu, hd⟩ := denL_get h2 off c hc
  have hagg' : i.agg = false := by simpa using hagg
  have h4 := h3 off u hu
  exact ⟨u, hd, by simp [execOp, hop, he, Instr.loadAt, Instr.sureAddr, Sem.run_bind, loadVar, ht.agg, hagg', load, Sem.run, h4]⟩

/-! ### Rows: loads -/
theorem ep_of {j : J} {id esz off : Nat} {e : E} {v : Value} {s : SV} (hs : j.s id = some s) (h : (V.one (.ep id esz e off)).den ρ j = some v) : ∃ a, s.a = some a ∧ v = .pointer (some (a.add ((e.I ρ).toNat * esz + off))) := by
  simp only [V.den, C.den, hs, Option.bind_some, SV.elem, Option.map_eq_some_iff] at h
  obtain ⟨a, ha, rfl⟩ := h
  exact ⟨a, ha, rfl⟩
theorem rowC_den (ρ : Env) (j : J) (l e : E) (c : Nat) (k : CE) : (rowC l e c k).den ρ j = some (cellV k (gt (l.R ρ) (e.I ρ) c)) := by
  cases k <;> simp [rowC, C.den, cellV, E.I, E.B]
theorem rowCs_get {l e : E} : ∀ {ks : List CE} {c0 m : Nat} {c : C}, (rowCs l e c0 ks)[m]? = some c → ∃ k, ks[m]? = some k ∧ c = rowC l e (c0 + m) k
  | [], c0, m, c, h => by simp [rowCs] at h
  | k :: ks, c0, m, c, h => by
    cases m with
    | zero => simp [rowCs] at h; exact ⟨k, rfl, h.symm⟩
    | succ m =>
      obtain ⟨k', h1, h2⟩ := rowCs_get (ks := ks) (c0 := c0 + 1) (m := m) (by simpa [rowCs] using h)
      exact ⟨k', by simpa using h1, by rw [h2]; congr 1; omega⟩
theorem rowCs_length (l e : E) : ∀ (ks : List CE) (c0 : Nat), (rowCs l e c0 ks).length = ks.length
  | [], _ => rfl
  | k :: ks, c0 => by simp [rowCs, rowCs_length l e ks]

theorem snd_loadE (hT : ∀ t i, (t, i) ∈ cx.ty → TIok P t i) {t : Nat} {x : Operand} {kw : Kw} (hop : o.op = .load t x) {id esz off : Nat} {e : E} (hx : vw.ev x = some (.one (.ep id esz e off))) {i : TI} (hi : lookN t cx.ty = some i) {r : RowOb} (hr : vw.sw id = some r) (hks : r.ks.length = esz) (hoff : off + i.size ≤ esz)
    (h : (decK (inB e r.l) (fun b kw => if b then
            (if i.agg then k { val := .agg (rowCs r.l e off ((r.ks.drop off).take i.size)), rr := [id] } kw
            else match r.ks[off]? with
              | some ck => k { val := .one (rowC r.l e off ck), rr := [id] } kw
              | none => .stuck 53)
            else .stuck 54) kw).holds sp G ρ I) (hg : Good sp cx.sm ρ kw) : Sound P sp ρ G I base cx vw o k kw := by
  obtain ⟨kw', h1, g1, _, l1⟩ := decK_ok _ _ _ h hg
  rw [inB_B] at h1
  have ht := hT _ _ (lookN_mem hi)
  split at h1
  · rename_i hb
    simp only [Bool.and_eq_true, decide_eq_true_eq] at hb
    -- the cells of the element
    have cells : ∀ {j : J} {w : World} {s : SV} {p : Addr}, SlOk ρ base w s r → s.a = some p → ∀ c ck, r.ks[c]? = some ck → w.cell? (p.add ((e.I ρ).toNat * esz + c)) = some (cellV ck (gt (r.l.R ρ) (e.I ρ) c)) := by
      intro j w s p hok hp c ck hck
      have := flat_get hck (i := (e.I ρ).toNat) hok.rows.row (by omega)
      rw [hks] at this
      exact hok.rd.2.2.2.2 p hp _ _ this
    split at h1
    · rename_i hagg
      refine ⟨_, kw', h1, g1, l1, OpOk.pure fun j a w _ hev _ hrr _ => ?_⟩
      obtain ⟨s, hs, hok⟩ := hrr.sl id (by simp) r hr
      obtain ⟨p, hp, he⟩ := ep_of hs (hev x (by simp [hop, Op.operands]) _ hx)
      have hkl : ((r.ks.drop off).take i.size).length = i.size := by rw [List.length_take, List.length_drop]; omega
      have hus : denL ρ j (rowCs r.l e off ((r.ks.drop off).take i.size)) = some ((List.range i.size).map fun m => cellV ((r.ks[off + m]?).getD none) (gt (r.l.R ρ) (e.I ρ) (off + m))) := by
        refine denL_of_get (by rw [rowCs_length, hkl]; simp) (fun m c hm => ?_)
        obtain ⟨ck, hck, rfl⟩ := rowCs_get hm
        have hm' : m < i.size := by
          have := (List.getElem?_eq_some_iff.1 hck).1
          omega
        rw [List.getElem?_take, if_pos hm', List.getElem?_drop] at hck
        refine ⟨_, ?_, rowC_den ρ j _ _ _ _⟩
        simp [hm', hck]
      refine ⟨_, by simp only [V.den, hus]; rfl, ?_⟩
      have h4 := run_loadVals (P := P) (a := p.add ((e.I ρ).toNat * esz + off)) (w := w) ((List.range i.size).map fun m => cellV ((r.ks[off + m]?).getD none) (gt (r.l.R ρ) (e.I ρ) (off + m))) 0 #[] (fun m u hu => by
        rw [Nat.zero_add, addr_add_add, Nat.add_assoc]
        have hm' : m < i.size := by
          have := (List.getElem?_eq_some_iff.1 hu).1
          simpa using this
        obtain ⟨ck, hck⟩ : ∃ ck, r.ks[off + m]? = some ck := ⟨_, List.getElem?_eq_getElem (by omega)⟩
        have := cells (j := j) hok hp (off + m) ck hck
        simp [hm', hck] at hu
        rw [this, hu])
      simp only [List.length_map, List.length_range] at h4
      simp [execOp, hop, he, Instr.loadAt, Instr.sureAddr, Sem.run_bind, loadVar, ht.agg, hagg, ht.size, loadCells, h4]
    · rename_i hagg
      split at h1
      · rename_i ck hck
        refine ⟨_, kw', h1, g1, l1, OpOk.pure fun j a w _ hev _ hrr _ => ?_⟩
        obtain ⟨s, hs, hok⟩ := hrr.sl id (by simp) r hr
        obtain ⟨p, hp, he⟩ := ep_of hs (hev x (by simp [hop, Op.operands]) _ hx)
        have h4 := cells (j := j) hok hp off ck hck
        have hagg' : i.agg = false := by simpa using hagg
        exact ⟨_, rowC_den ρ j _ _ _ _, by simp [execOp, hop, he, Instr.loadAt, Instr.sureAddr, Sem.run_bind, loadVar, ht.agg, hagg', load, Sem.run, h4]⟩
      · exact h1.elim
  · exact h1.elim

/-! ### Rows: stores -/
theorem own_form {w : World} {base ty esz : Nat} {s : SV} {xs : List Value} (h : w.ownsRow base ty esz s.v s.n xs) {p : Addr} (hp : s.a = some p) : ∃ g, p = ⟨g, 0, none⟩ ∧ s.v = .slice (some ⟨g, 0, none⟩) s.n s.c := by
  rcases h.2 with ⟨hv, _⟩ | ⟨g, cap, cur, hv, _⟩
  · simp only [SV.v, hp] at hv; cases hv
  · simp only [SV.v, hp, Value.slice.injEq, Option.some.injEq] at hv
    exact ⟨g, hv.1, by simp only [SV.v, hp, hv.1]⟩
theorem st_rows {ks : List CE} {L : List (List Int)} {c : Nat} {k : CE} (hk : ks[c]? = some k) {x : Int} (hx : inCE k x = true) (h : RowsIn ks L) (i : Int) : RowsIn ks (st L i c x) := by
  refine ⟨fun r hr => ?_, by rw [st_length]; exact h.len⟩
  rcases mem_st hr with hr | ⟨r0, hr0, rfl⟩
  · exact h.row r hr
  · exact rowIn_set (h.row r0 hr0) hk hx
theorem run_storeRow {ty g n cap : Nat} {e : E} {j : J} {vk : List VK} (hv : Vk ρ vk) : ∀ (ks0 : List CE) (cs : List C) (l l' : E) (off i0 : Nat) (vs : List Value) (w : World) (p : Addr),
    rowPut vk l e off ks0 cs = some l' → denL ρ j cs = some vs → ∀ ks : List CE, (∀ m : Nat, ks0[m]? = ks[off + m]?) → RowsIn ks (l.R ρ) → (e.I ρ).toNat < (l.R ρ).length → w.ownsRow base ty ks.length (.slice (some ⟨g, 0, none⟩) n cap) n (flat ks (l.R ρ)) → (∀ m, p.add (i0 + m) = ⟨g, (e.I ρ).toNat * ks.length + (off + m), none⟩) →
    ∃ w', (storeCells p vs i0).run P w = .ok () w' ∧ w'.ownsRow base ty ks.length (.slice (some ⟨g, 0, none⟩) n cap) n (flat ks (l'.R ρ)) ∧ w.grownBy w' (some g) ∧ RowsIn ks (l'.R ρ) ∧ (l'.R ρ).length = (l.R ρ).length
  | ks0, [], l, l', off, i0, vs, w, p, hput, hd, ks, hsub, hrows, hi, hown, hp => by
    have e1 : l' = l := by
      unfold rowPut at hput
      cases ks0 with
      | nil => exact (Option.some.inj hput).symm
      | cons k ks0 => cases k <;> exact (Option.some.inj hput).symm
    subst e1
    cases hd
    exact ⟨w, by simp [storeCells], hown, ⟨rfl, rfl, rfl, Nat.le_refl _, fun _ _ _ => rfl⟩, hrows, rfl⟩
  | [], c :: cs, l, l', off, i0, vs, w, p, hput, hd, ks, hsub, hrows, hi, hown, hp => by simp [rowPut] at hput
  | k :: ks0, c :: cs, l, l', off, i0, vs, w, p, hput, hd, ks, hsub, hrows, hi, hown, hp => by
    simp only [denL] at hd
    cases hc : c.den ρ j with
    | none => rw [hc] at hd; cases hd
    | some v =>
      cases hl : denL ρ j cs with
      | none => rw [hc, hl] at hd; cases hd
      | some us =>
        rw [hc, hl] at hd; cases hd
        have hk : ks[off]? = some k := by have := hsub 0; simpa using this.symm
        have hn : (flat ks (l.R ρ)).length = (l.R ρ).length * ks.length := flat_length hrows.row
        have hcl : off < ks.length := (List.getElem?_eq_some_iff.1 hk).1
        -- one cell
        have step : ∀ (x : Int) (l1 : E), v = cellV k x → inCE k x = true → l1.R ρ = st (l.R ρ) (e.I ρ) off x → rowPut vk l1 e (off + 1) ks0 cs = some l' →
            ∃ w', (storeCells p (v :: us) i0).run P w = .ok () w' ∧ w'.ownsRow base ty ks.length (.slice (some ⟨g, 0, none⟩) n cap) n (flat ks (l'.R ρ)) ∧ w.grownBy w' (some g) ∧ RowsIn ks (l'.R ρ) ∧ (l'.R ρ).length = (l.R ρ).length := by
          intro x l1 hvx hx hl1 hput'
          have hfs : (flat ks (l.R ρ)).set ((e.I ρ).toNat * ks.length + off) (cellV k x) = flat ks (l1.R ρ) := by rw [hl1]; exact flat_set hk x hrows.row hi
          have hlt : (e.I ρ).toNat * ks.length + off < n * ks.length := by
            have h1 := hown.1
            rw [hn] at h1
            have h2 : ((e.I ρ).toNat + 1) * ks.length ≤ (l.R ρ).length * ks.length := Nat.mul_le_mul_right _ hi
            rw [Nat.succ_mul] at h2
            omega
          have hcell : ∃ u, w.cell? ⟨g, (e.I ρ).toNat * ks.length + off, none⟩ = some u := by
            have h1 := hown.cellAt _ hlt
            have h2 : (e.I ρ).toNat * ks.length + off < (flat ks (l.R ρ)).length := by rw [hown.1]; exact hlt
            exact ⟨_, by rw [h1, List.getElem?_eq_getElem h2]⟩
          obtain ⟨u, hu⟩ := hcell
          have hfr := hown.frozenAt ((e.I ρ).toNat * ks.length + off)
          obtain ⟨h3, h4⟩ := hown.stored ((e.I ρ).toNat * ks.length + off) v
          rw [hvx, hfs] at h3
          have hp0 := hp 0
          simp only [Nat.add_zero] at hp0
          have hone : v.oneCell' = true := by rw [hvx]; cases k <;> rfl
          obtain ⟨w', h5, h6, h7, h8, h9⟩ := run_storeRow hv ks0 cs l1 l' (off + 1) (i0 + 1) us (w.setCell ⟨g, (e.I ρ).toNat * ks.length + off, none⟩ v) p hput' hl ks (fun m => by have := hsub (m + 1); simpa [Nat.add_assoc, Nat.add_comm 1 m] using this)
            (by rw [hl1]; exact st_rows hk hx hrows _) (by rw [hl1, st_length]; exact hi) (by rw [hvx]; exact h3) (fun m => by rw [Nat.add_assoc, Nat.add_comm 1 m, hp (m + 1)]; congr 1; omega)
          refine ⟨w', ?_, h6, h4.trans h7, h8, by rw [h9, hl1, st_length]⟩
          simp only [storeCells, hp0, Sem.run_bind, run_store P w _ v _ hone, hu, hfr, Result.andThen_ok, Bool.false_eq_true, if_false]
          exact h5
        cases k with
        | none =>
          cases c <;> simp only [rowPut] at hput <;> first | cases hput | skip
          rename_i x
          have hvx : v = .bool (x.B ρ) := (Option.some.inj hc).symm
          exact step (b2i (x.B ρ)) _ (by rw [hvx]; simp only [cellV]; cases x.B ρ <;> rfl) (b2i_in _) rfl hput
        | some kd =>
          cases c <;> simp only [rowPut] at hput <;> first | cases hput | skip
          rename_i k' x
          split at hput
          · rename_i hkk
            simp only [Bool.and_eq_true] at hkk
            have hvx : v = .int k' (x.I ρ) := (Option.some.inj hc).symm
            exact step (x.I ρ) _ (by rw [hvx, kdSame_eq hkk.1]; rfl) (E.rng_ok hv x hkk.2) rfl hput
          · cases hput

theorem snd_storeE (hT : ∀ t i, (t, i) ∈ cx.ty → TIok P t i) {t : Nat} {x y : Operand} {kw : Kw} (hop : o.op = .store t x y) {id esz off : Nat} {e : E} (hx : vw.ev x = some (.one (.ep id esz e off))) {v : V} (hy : vw.ev y = some v) {i : TI} (hi : lookN t cx.ty = some i)
    {r : RowOb} (hr : vw.sw id = some r) (hrown : r.own = true) (hks : r.ks.length = esz) (hf : v.flat = true) (hn : v.cells.length = i.size) (hoff : off + i.size ≤ esz)
    (h : (decK (inB e r.l) (fun b kw => if b then
            (match rowPut kw.vk r.l e off (r.ks.drop off) v.cells with
              | some l => k { val := .one .undef, rr := [id], re := .set id { r with l := l } } kw
              | none => .stuck 57)
            else .stuck 58) kw).holds sp G ρ I) (hg : Good sp cx.sm ρ kw) : Sound P sp ρ G I base cx vw o k kw := by
  obtain ⟨kw', h1, g1, _, l1⟩ := decK_ok _ _ _ h hg
  rw [inB_B] at h1
  have ht := hT _ _ (lookN_mem hi)
  split at h1
  · rename_i hb
    simp only [Bool.and_eq_true, decide_eq_true_eq] at hb
    split at h1
    · rename_i l hl
      refine ⟨_, kw', h1, g1, l1, fun j a w _ hev hrd hwr hrr hfb K Q hK => ?_⟩
      obtain ⟨s, hs, hok⟩ := hrr.sl id (by simp) r hr
      obtain ⟨p, hp, he⟩ := ep_of hs (hev x (by simp [hop, Op.operands]) _ hx)
      have hd := V.cells_ok (hev y (by simp [hop, Op.operands]) v hy) hf
      have hown := hok.own hrown
      obtain ⟨g, rfl, hsv⟩ := own_form hown hp
      rw [hsv] at hown
      obtain ⟨w', h2, h3, h4, h5, h6⟩ := run_storeRow (P := P) g1.vk (r.ks.drop off) v.cells r.l l off 0 _ w ((⟨g, 0, none⟩ : Addr).add ((e.I ρ).toNat * esz + off)) hl hd r.ks (fun m => by rw [List.getElem?_drop]) hok.rows (by omega) hown
        (fun m => by rw [addr_add_add, add_none, hks]; congr 1; omega)
      have hsz : (a.eval y).cells.size = i.size := by
        have := denL_length hd
        rw [Array.length_toList, hn] at this
        exact this
      refine wp_skp (w' := w') ?_ (hK _ j w' rfl ⟨rfl, s, hs, ?_, RowOk.mk_own (r := { r with l := l }) (Vw.sw_some hr).2 (by rw [hok.n]; exact h6.symm) h5 hok.pos (by rw [hsv]; exact h3)⟩)
      · simp [execOp, hop, he, Instr.storeAt, Instr.sureAddr, Sem.run_bind, storeVar, ht.size, hsz, h2]
      · rw [hsv]; exact h4
    · exact h1.elim
  · exact h1.elim
end
end Go.Proofs.Ytmkaphfdgdkaoaa

/- The run of an operation is sound: rows made, lengthened, cut; calls; all kinds together. Nothing of the program is in here. -/
set_option linter.unusedVariables false
set_option linter.unusedSimpArgs false
namespace Go.Proofs.Ytmkaphfdgdkaoaa
open Go.RowKit

section
variable {P : Program} {sp : Spec} {ρ : Env} {G : Env → E → Prop} {I : Nat → List Dt → Prop} {base : Nat} {cx : Cx} {vw : Vw} {o : Oper} {k : Eff → Kw → Tr}

def setRowV : List Value → Nat → List Value → List Value
  | cs, _, [] => cs
  | cs, off, v :: r => setRowV (cs.set off v) (off + 1) r
theorem setRow_ok {j : J} : ∀ {vs : List C} {us : List Value} {cs : List C} {ws : List Value} {off : Nat}, denL ρ j vs = some us → denL ρ j cs = some ws → denL ρ j (setRow cs off vs) = some (setRowV ws off us)
  | [], us, cs, ws, off, h, h' => by cases h; exact h'
  | v :: vs, us, cs, ws, off, h, h' => by
    simp only [denL] at h
    cases hc : v.den ρ j with
    | none => rw [hc] at h; cases h
    | some u =>
      cases hl : denL ρ j vs with
      | none => rw [hc, hl] at h; cases h
      | some l =>
        rw [hc, hl] at h; cases h
        exact setRow_ok (vs := vs) (us := l) hl (denL_set h' off v u hc)
theorem foldl_row (off : Nat) : ∀ (l : List Value) (m : Nat) (cells : Array Value), ((l.zipIdx m).foldl (fun cs (p : Value × Nat) => cs.setIfInBounds (off + p.2) p.1) cells).toList = setRowV cells.toList (off + m) l
  | [], m, cells => rfl
  | v :: l, m, cells => by
    simp only [List.zipIdx_cons, List.foldl_cons]
    rw [foldl_row off l (m + 1)]
    simp [setRowV, Nat.add_assoc]
theorem fill_ok {j : J} {pl : Nat → Option (Nat × Nat)} : ∀ (parts : List (Nat × V)) (cs cs' : List C) (us : List (Nat × Value)) (cells : Array Value), fillC pl cs parts = some cs' → denL ρ j cs = some cells.toList → (parts.map (·.1) = us.map (·.1)) →
    (∀ (i : Nat) p u, parts[i]? = some p → us[i]? = some u → p.2.den ρ j = some u.2) → ∃ cells', Instr.fill pl cells us = some cells' ∧ denL ρ j cs' = some cells'.toList
  | [], cs, cs', us, cells, h, hd, hm, hu => by
    cases us with
    | nil => cases h; exact ⟨cells, rfl, hd⟩
    | cons _ _ => simp at hm
  | (i, v) :: parts, cs, cs', us, cells, h, hd, hm, hu => by
    cases us with
    | nil => simp at hm
    | cons u us =>
      obtain ⟨i', u⟩ := u
      simp only [List.map_cons, List.cons.injEq] at hm
      obtain ⟨rfl, hm⟩ := hm
      simp only [fillC] at h
      split at h
      · rename_i off size hp
        split at h
        · rename_i hc
          simp only [Bool.and_eq_true, decide_eq_true_eq] at hc
          obtain ⟨h1, h2, h3⟩ := hc
          have hv := hu 0 _ _ rfl rfl
          have hcells := V.cells_ok hv h1
          have hl1 := denL_length hcells
          have hl2 := denL_length hd
          rw [Nat.eq_of_beq_eq_true h2] at hl1
          simp only [Array.length_toList] at hl1 hl2
          have hrow : denL ρ j (setRow cs off v.cells) = some ((u.cells.zipIdx.foldl (fun cs (p : Value × Nat) => cs.setIfInBounds (off + p.2) p.1) cells)).toList := by
            rw [← Array.foldl_toList, Array.toList_zipIdx, foldl_row]
            exact setRow_ok hcells hd
          obtain ⟨cells', h5, h6⟩ := fill_ok parts _ cs' us _ h hrow hm (fun i p w hp' hw => hu (i + 1) p w (by simpa using hp') (by simpa using hw))
          refine ⟨cells', ?_, h6⟩
          unfold Instr.fill
          have hc1 : ¬ (u.cells.size ≠ size || decide (off + u.cells.size > cells.size)) = true := by simp; omega
          simp only [hp]
          rw [if_neg hc1]
          exact h5
        · cases h
      · cases h
theorem evP_ok {ev : Operand → Option V} {j : J} {a : Act} : ∀ {l : List (Nat × Operand)} {vs : List (Nat × V)}, evP ev l = some vs → (∀ x ∈ l.map (·.2), ∀ v, ev x = some v → v.den ρ j = some (a.eval x)) →
    vs.map (·.1) = (l.map fun p => (p.1, a.eval p.2)).map (·.1) ∧ ∀ (i : Nat) p u, vs[i]? = some p → (l.map fun p => (p.1, a.eval p.2))[i]? = some u → p.2.den ρ j = some u.2
  | [], vs, h, hev => by cases h; exact ⟨rfl, fun i p u hp => by simp at hp⟩
  | (n, x) :: l, vs, h, hev => by
    simp only [evP] at h
    cases hc : ev x with
    | none => rw [hc] at h; cases h
    | some v =>
      cases hl : evP ev l with
      | none => rw [hc, hl] at h; cases h
      | some us =>
        rw [hc, hl] at h; cases h
        obtain ⟨h1, h2⟩ := evP_ok (a := a) (j := j) hl (fun y hy => hev y (List.mem_cons_of_mem _ hy))
        refine ⟨by simp [h1], fun i p u hp hu => ?_⟩
        cases i with
        | zero =>
          simp at hp hu
          subst hp hu
          exact hev x List.mem_cons_self v hc
        | succ i => exact h2 i p u (by simpa using hp) (by simpa using hu)
theorem made_rep (z : Array Value) (n : Nat) : (madeCells z (n * z.size)).toList = (List.replicate n z.toList).flatten := by
  have hf : (madeCells z (n * z.size)).toList = (List.range (n * z.size)).map (fun i => z[i % z.size]!) := by simp [madeCells]
  rw [hf]
  clear hf
  induction n with
  | zero => simp
  | succ n ih =>
    rw [Nat.succ_mul, List.range_add, List.map_append, ih, List.replicate_succ', List.flatten_concat]
    congr 1
    apply List.ext_getElem?
    intro i
    by_cases hi : i < z.size
    · have : (n * z.size + i) % z.size = i := by rw [Nat.add_comm, Nat.add_mul_mod_self_right, Nat.mod_eq_of_lt hi]
      simp [hi, this]
    · simp [hi]
/-! ### Rows out of cells -/
theorem rowE_ok {j : J} {vk : List VK} (hv : Vk ρ vk) : ∀ {ks : List CE} {cs : List C} {r : E} {vs : List Value}, rowE vk ks cs = some r → denL ρ j cs = some vs → vs = rowV ks (r.L ρ) ∧ rowIn ks (r.L ρ) = true
  | [], [], r, vs, h, hd => by cases h; cases hd; exact ⟨rfl, rfl⟩
  | some k :: ks, .int k' x :: cs, r, vs, h, hd => by
    simp only [rowE] at h
    split at h
    · rename_i hk
      simp only [Bool.and_eq_true] at hk
      rw [Option.map_eq_some_iff] at h
      obtain ⟨t, ht, rfl⟩ := h
      simp only [denL, C.den] at hd
      cases hl : denL ρ j cs with
      | none => rw [hl] at hd; cases hd
      | some us =>
        rw [hl] at hd; cases hd
        obtain ⟨h1, h2⟩ := rowE_ok hv ht hl
        refine ⟨by simp only [E.L, rowV, cellV]; rw [h1, kdSame_eq hk.1], ?_⟩
        simp only [E.L, rowIn, inCE, Bool.and_eq_true]
        exact ⟨E.rng_ok hv x hk.2, h2⟩
    · cases h
  | none :: ks, .bool x :: cs, r, vs, h, hd => by
    simp only [rowE, Option.map_eq_some_iff] at h
    obtain ⟨t, ht, rfl⟩ := h
    simp only [denL, C.den] at hd
    cases hl : denL ρ j cs with
    | none => rw [hl] at hd; cases hd
    | some us =>
      rw [hl] at hd; cases hd
      obtain ⟨h1, h2⟩ := rowE_ok hv ht hl
      refine ⟨by simp only [E.L, rowV, cellV]; rw [h1]; congr 2; cases x.B ρ <;> rfl, ?_⟩
      simp only [E.L, rowIn, Bool.and_eq_true]
      exact ⟨b2i_in _, h2⟩
theorem rowsE_ok {j : J} {vk : List VK} (hv : Vk ρ vk) {ks : List CE} : ∀ (n : Nat) {cs : List C} {l : E} {vs : List Value}, rowsE vk ks n cs = some l → denL ρ j cs = some vs → vs = flat ks (l.R ρ) ∧ (l.R ρ).length = n ∧ ∀ r ∈ l.R ρ, rowIn ks r = true
  | 0, [], l, vs, h, hd => by cases h; cases hd; exact ⟨rfl, rfl, fun r hr => by cases hr⟩
  | 0, _ :: _, l, vs, h, hd => by simp [rowsE] at h
  | n + 1, cs, l, vs, h, hd => by
    simp only [rowsE] at h
    split at h
    · rename_i r l' hr hl
      cases h
      obtain ⟨h1, h2⟩ := rowE_ok hv hr (denL_take hd _)
      obtain ⟨h3, h4, h5⟩ := rowsE_ok hv n hl (denL_drop hd _)
      rw [consE_R, flat_cons, ← h1, ← h3]
      refine ⟨by rw [List.take_append_drop], by simp [h4], fun x hx => ?_⟩
      rcases List.mem_cons.1 hx with rfl | hx
      · exact h2
      · exact h5 x hx
    · cases h

theorem Ext.of_grown {w w' : World} (h : w.grownBy w' none) : Ext w w' := Below.grown (Ext.refl w) h (Nat.le_refl _) (fun k hk => by cases hk)
theorem mk_one {ρ : Env} {base nid : Nat} {w w' : World} {j : J} {u : SV} {r : RowOb} {v : V} (hx : Ext w w') (hr : RowOk ρ w.heap.size w' u r) (ho : r.own = true) {eff : Eff} (he : eff = { val := v, rr := eff.rr, re := .mk [r] }) : Does ρ base nid eff j w (j.putL nid [u]) w' := by
  rw [he]
  refine ⟨hx, [u], rfl, fun i u' r' h1 h2 => ?_, fun i i' u1 u2 k h1 h2 _ _ => ?_, rfl⟩
  · cases i with
    | zero => simp at h1 h2; subst h1 h2; exact ⟨hr, ho⟩
    | succ i => simp at h1
  · cases i with
    | zero =>
      cases i' with
      | zero => rfl
      | succ i' => simp at h2
    | succ i => simp at h1
theorem sl_put {ρ : Env} {j : J} {nid : Nat} {u : SV} : (V.one (.sl nid)).den ρ (j.putL nid [u]) = some u.v := by
  simp [V.den, C.den, J.putL]
theorem sl_putS {ρ : Env} {j : J} {nid : Nat} {u : SV} : (V.one (.sl nid)).den ρ (j.putS nid u) = some u.v := by
  simp [V.den, C.den, J.putS]

theorem snd_buildSlice (hT : ∀ t i, (t, i) ∈ cx.ty → TIok P t i) {t n : Nat} {ps : Array (Nat × Operand)} {kw : Kw} (hop : o.op = .buildSlice t n ps) {parts : List (Nat × V)} (hps : evP vw.ev ps.toList = some parts) {i : TI} (hi : lookN t cx.ty = some i) {et : Nat} (ha : i.sle = some et) {ie : TI} (hie : lookN et cx.ty = some ie)
    {ks : List CE} {cs : List C} (hfill : fillC (fun m => some (m * ie.size, ie.size)) ((List.replicate n ie.zero).flatten) parts = some cs) {l : E} (hl : rowsE kw.vk ks n cs = some l) (hq : n * ie.size ≤ 16777216 ∧ 0 < ie.size ∧ ks.length = ie.size)
    (h : (k { val := .one (.sl vw.nid), re := .mk [⟨ks, et, l, true, .sl⟩] } kw).holds sp G ρ I) (hg : Good sp cx.sm ρ kw) : Sound P sp ρ G I base cx vw o k kw := by
  refine ⟨_, kw, h, hg, .refl _, fun j a w hb hev hrd hwr hrr hfb K Q hK => ?_⟩
  obtain ⟨h1, h2⟩ := evP_ok (a := a) (j := j) hps (fun x hx => hev x (by
    simp only [hop, Op.operands]
    simpa using hx))
  have h3 : (ps.map fun p => (p.1, a.eval p.2)).toList = ps.toList.map fun p => (p.1, a.eval p.2) := Array.toList_map ..
  have hx : execOp a.eval o = (do let v ← Instr.buildSlice t n (ps.map fun p => (p.1, a.eval p.2)); pure (.value v)) := by simp only [execOp, hop]
  have hu := (hT _ _ (lookN_mem hi)).sle et ha
  have hte := hT _ _ (lookN_mem hie)
  have hsz := hte.size
  obtain ⟨inf, z, hinf, hisz, _, hz, hzl, hzd⟩ := hte.info
  have hzs : z.cells.size = ie.size := by simpa using hzl
  -- the noughts
  have zer : denL ρ j ((List.replicate n ie.zero).flatten) = some (madeCells z.cells (n * ie.size)).toList := by
    rw [← hzs, made_rep]
    have : ∀ n, denL ρ j ((List.replicate n ie.zero).flatten) = some ((List.replicate n z.cells.toList).flatten) := by
      intro n
      induction n with
      | zero => rfl
      | succ n ih =>
        simp only [List.replicate_succ, List.flatten_cons]
        exact denL_append (hzd ρ j) ih
    exact this n
  obtain ⟨cells, h4, h5⟩ := fill_ok (j := j) parts _ cs _ (madeCells z.cells (n * ie.size)) hfill zer h1 h2
  obtain ⟨h6, h7, h8⟩ := rowsE_ok hg.vk n hl h5
  have hmax : n ≤ maxLen := by
    have : n * 1 ≤ n * ie.size := Nat.mul_le_mul_left n hq.2.1
    simp only [maxLen]; omega
  have hcs : cells.size = n * ks.length := by
    have := congrArg List.length h6
    rw [flat_length h8, h7] at this
    simpa using this
  have own := World.ownsRow_lit (base := w.heap.size) (e := et) (size := ks.length) w cells n (Nat.le_refl _) hmax hcs
  rw [h6] at own
  refine wp_val (w' := w.alloc (.cells cells et)) (v := (⟨some ⟨w.heap.size, 0, none⟩, n, n⟩ : SV).v) ?_ (hK _ (j.putL vw.nid [⟨some ⟨w.heap.size, 0, none⟩, n, n⟩]) _ sl_put (mk_one (Ext.of_grown (World.grownBy_alloc w _ none)) (RowOk.mk_own rfl h7.symm ⟨h8, by rw [h7]; exact hmax⟩ (by simp only; omega) own) rfl rfl))
  rw [hx]
  have hbig : ¬ (16777216 < n * ie.size) := by omega
  by_cases hn0 : n * ie.size = 0
  · have hn : n = 0 := by
      rcases Nat.mul_eq_zero.1 hn0 with h | h
      · exact h
      · omega
    subst hn
    have h4' : Instr.fill (fun m => some (m * ie.size, ie.size)) #[] (ps.toList.map fun p => (p.1, a.eval p.2)) = some cells := by
      rw [← h4]; congr 1
      simp [madeCells]
    simp [Instr.buildSlice, Sem.run_bind, run_underlying hu, hsz, h3, Array.range_zero', h4', newRow, SV.v]
  · simp only [madeCells] at h4
    simp [Instr.buildSlice, Sem.run_bind, run_underlying hu, hsz, h3, hbig, hn0, zeroValue, typeInfo, hinf, hz, h4, newRow, SV.v]

theorem snd_makeSlice (hT : ∀ t i, (t, i) ∈ cx.ty → TIok P t i) {t : Nat} {x y : Operand} {kw : Kw} (hop : o.op = .makeSlice t x y) {k1 k2 : IntKind} {e e' : E} (hx : vw.ev x = some (.one (.int k1 e))) (hy : vw.ev y = some (.one (.int k2 e'))) {i : TI} (hi : lookN t cx.ty = some i) {et : Nat} (ha : i.sle = some et) {ie : TI} (hie : lookN et cx.ty = some ie)
    {ks : List CE} {r : E} (hr : rowE kw.vk ks ie.zero = some r) (hq : e.same e' = true ∧ 0 < ie.size ∧ ks.length = ie.size ∧ ie.bytes ≤ 65536)
    (h : (decK (mkLt e (.lit 0)) (fun b kw => if b then .panic else decK (mkLt e (.lit bigB)) (fun b kw => if b then
                  k { val := .one (.sl vw.nid), re := .mk [⟨ks, et, .lrep e r, true, .sl⟩] } kw else .panic) kw) kw).holds sp G ρ I) (hg : Good sp cx.sm ρ kw) : Sound P sp ρ G I base cx vw o k kw := by
  have hv0 := hg.vk
  obtain ⟨kw1, h1, g1, _, l1⟩ := decK_ok _ _ _ h hg
  rw [mkLt_B] at h1
  split at h1
  · exact h1.elim
  rename_i hneg
  obtain ⟨kw2, h2, g2, _, l2⟩ := decK_ok _ _ _ h1 g1
  rw [mkLt_B] at h2
  split at h2
  · rename_i hbig
    have hneg' : 0 ≤ e.I ρ := by
      have h3 : ¬ e.I ρ < 0 := of_decide_eq_false (Bool.eq_false_iff.2 hneg)
      omega
    have hbig' : e.I ρ < 1073741824 := of_decide_eq_true hbig
    have hes := E.same_eq hq.1
    rw [← hes] at hy
    refine ⟨_, kw2, h2, g2, l2.trans l1, fun j a w hb hev hrd hwr hrr hfb K Q hK => ?_⟩
    have hdx := one_int (hev x (by simp [hop, Op.operands]) _ hx)
    have hdy := one_int (hev y (by simp [hop, Op.operands]) _ hy)
    have hu := (hT _ _ (lookN_mem hi)).sle et ha
    have hte := hT _ _ (lookN_mem hie)
    obtain ⟨inf, z, hinf, hisz, hbytes, hz, hzl, hzd⟩ := hte.info
    obtain ⟨h6, h7⟩ := rowE_ok hv0 hr (hzd ρ j)
    have hN : ((e.I ρ).toNat : Int) = e.I ρ := Int.toNat_of_nonneg hneg'
    have hlt : (e.I ρ).toNat < 1073741824 := by omega
    have hmax : (e.I ρ).toNat ≤ maxLen := by simp only [maxLen]; omega
    have hbb : inf.bytes * (e.I ρ).toNat ≤ 281474976710656 := by
      have : inf.bytes * (e.I ρ).toNat ≤ 65536 * 1073741824 := Nat.mul_le_mul (by omega) (by omega)
      omega
    obtain ⟨w', h3, h4, h5⟩ := run_make_full (P := P) w w.heap.size t et inf z ie.size hu hinf hz hisz k1 k2 (e.I ρ).toNat hbb hmax (Nat.le_refl _)
    have hzs : z.cells.size = ie.size := by simpa using hzl
    have hflat : (madeCells z.cells ((e.I ρ).toNat * ie.size)).toList = flat ks ((E.lrep e r).R ρ) := by
      rw [← hzs, made_rep, h6]
      simp [E.R, flat, List.flatMap_replicate]
    rw [hflat, ← hq.2.2.1] at h4
    have hlen : ((E.lrep e r).R ρ).length = (e.I ρ).toNat := by simp [E.R]
    refine wp_val (w' := w') (v := (⟨some ⟨w.heap.size, 0, none⟩, (e.I ρ).toNat, (e.I ρ).toNat⟩ : SV).v) ?_ (hK _ (j.putL vw.nid [⟨some ⟨w.heap.size, 0, none⟩, (e.I ρ).toNat, (e.I ρ).toNat⟩]) _ sl_put (mk_one (Ext.of_grown h5) (RowOk.mk_own rfl hlen.symm ⟨fun x hx => ?_, by rw [hlen]; exact hmax⟩ (by simp only; omega) h4) rfl rfl))
    · rw [hN] at h3
      simp [execOp, hop, hdx, hdy, h3, SV.v, Sem.run_bind]
    · simp only [E.R, List.mem_replicate] at hx
      rw [hx.2]; exact h7
  · exact h2.elim
end
end Go.Proofs.Ytmkaphfdgdkaoaa

/- The run of an operation is sound: rows lengthened, cut, counted; calls. Nothing of the program is in here. -/
set_option linter.unusedVariables false
set_option linter.unusedSimpArgs false
namespace Go.Proofs.Ytmkaphfdgdkaoaa
open Go.RowKit

section
variable {P : Program} {sp : Spec} {ρ : Env} {G : Env → E → Prop} {I : Nat → List Dt → Prop} {base : Nat} {cx : Cx} {vw : Vw} {o : Oper} {k : Eff → Kw → Tr}

theorem sl_of {j : J} {id : Nat} {s : SV} {v : Value} (hs : j.s id = some s) (h : (V.one (.sl id)).den ρ j = some v) : v = s.v := by
  simp only [V.den, C.den, hs, Option.map_some, Option.some.injEq] at h
  exact h.symm
theorem nsl_of {j : J} {v : Value} (h : (V.one .nsl).den ρ j = some v) : v = .slice none 0 0 := (Option.some.inj h).symm

/-! ### Cut -/
theorem run_slice_ok {w : World} {t et esz : Nat} (hu : P.underlying t = some (.slice et)) (hs : (sizeOf et).run P w = .ok esz w) (s : SV) (l h : Nat) (low high : Option Value) (hl : (low = none ∧ l = 0) ∨ ∃ kd : IntKind, low = some (.int kd (l : Int))) (hh : (high = none ∧ h = s.n) ∨ ∃ kd : IntKind, high = some (.int kd (h : Int))) (h1 : l ≤ h) (h2 : h ≤ s.n) (h3 : s.n ≤ s.c) :
    (Instr.sliceAt t s.v low high none).run P w = .ok (⟨if s.c = l then s.a else s.a.map (·.add (l * esz)), h - l, s.c - l⟩ : SV).v w := by
  have sb : ∀ (kd : IntKind) (m y : Nat) code, m ≤ y → (Instr.sliceBound (.int kd (m : Int)) y code).run P w = .ok m w := fun kd m y code hmy => by
    have h5 : (m : Int) ≤ (y : Int) := by omega
    simp [Instr.sliceBound, asIntOf, Sem.run_bind, hmy]
  have b1 : (Instr.sliceBounds true s.n s.c low high none).run P w = .ok (l, h, s.c) w := by
    rcases hl with ⟨rfl, rfl⟩ | ⟨kd, rfl⟩ <;> rcases hh with ⟨rfl, rfl⟩ | ⟨kd', rfl⟩
    · simp [Instr.sliceBounds, Sem.run_bind]
    · simp [Instr.sliceBounds, Sem.run_bind, sb kd' h s.c _ (by omega)]
    · simp [Instr.sliceBounds, Sem.run_bind, sb kd l s.n _ (by omega)]
    · simp [Instr.sliceBounds, Sem.run_bind, sb kd l h _ (by omega), sb kd' h s.c _ (by omega)]
  simp [Instr.sliceAt, Instr.slice, SV.v, run_underlying hu, Sem.run_bind, b1, hs]
theorem cut_block {s : SV} {l h esz : Nat} : ∀ k, (⟨if s.c = l then s.a else s.a.map (·.add (l * esz)), h - l, s.c - l⟩ : SV).blk false = some k → s.blk false = some k := by
  intro k hk
  have hc : s.c ≠ 0 := fun hc => by
    unfold SV.blk at hk
    simp [hc] at hk
  refine blk_cells hc ?_
  have hk := blk_some hk
  obtain ⟨a, n, c⟩ := s
  simp only [SV.v] at hk ⊢
  split at hk
  · cases a <;> simp_all [Value.ownBlock]
  · cases a with
    | none => simp [Value.ownBlock] at hk
    | some a =>
      simp only [Option.map_some, Value.ownBlock, Option.some.injEq] at hk ⊢
      rw [← hk]
      unfold Addr.add
      split <;> rfl
theorem cut_row {w : World} {s : SV} {r q : RowOb} {l h : Nat} (hok : SlOk ρ base w s r) (hq : q.ks = r.ks ∧ q.own = false) (hL : q.l.R ρ = ((r.l.R ρ).take h).drop l) (h1 : l ≤ h) (h2 : h ≤ s.n) :
    SlOk ρ base w ⟨if s.c = l then s.a else s.a.map (·.add (l * r.ks.length)), h - l, s.c - l⟩ q := by
  obtain ⟨r1, r2, r3, r4, r5⟩ := hok.rd
  have hn := hok.n
  have hlen : (q.l.R ρ).length = h - l := by rw [hL, List.length_drop, List.length_take]; omega
  have hrows : ∀ x ∈ q.l.R ρ, rowIn r.ks x = true := fun x hx => hok.rows.row x (by rw [hL] at hx; exact List.mem_of_mem_take (List.mem_of_mem_drop hx))
  refine ⟨hlen.symm, ⟨by rw [hq.1]; exact hrows, by rw [hlen]; omega⟩, by rw [hq.1]; exact hok.pos, fun k hk => ?_, fun ho => (by rw [hq.2] at ho; cases ho), ?_⟩
  · rw [hq.2] at hk
    exact hok.lt k (blk_mono (cut_block k hk))
  · rw [hq.1]
    have hfl : flat r.ks (q.l.R ρ) = ((flat r.ks (r.l.R ρ)).take (h * r.ks.length)).drop (l * r.ks.length) := by
      rw [flat_take h hok.rows.row, flat_drop l (fun x hx => hok.rows.row x (List.mem_of_mem_take hx)), hL]
    refine ⟨by rw [flat_length hrows, hlen], by simp only; omega, by simp only; omega, fun ha => ?_, fun a ha i u hi => ?_⟩
    · simp only at ha ⊢
      split at ha
      · have := r4 ha; omega
      · rw [Option.map_eq_none_iff] at ha
        have := r4 ha; omega
    · simp only at ha
      have hlt : i < (flat r.ks (q.l.R ρ)).length := (List.getElem?_eq_some_iff.1 hi).1
      rw [flat_length hrows, hlen] at hlt
      split at ha
      · rename_i hc
        have : h - l = 0 := by omega
        rw [this] at hlt
        omega
      · rw [Option.map_eq_some_iff] at ha
        obtain ⟨a0, ha0, rfl⟩ := ha
        rw [addr_add_add]
        refine r5 a0 ha0 _ u ?_
        rw [hfl, List.getElem?_drop, List.getElem?_take] at hi
        split at hi
        · exact hi
        · cases hi
theorem SlOk.shut {w : World} {s : SV} {r : RowOb} (h : SlOk ρ base w s r) : SlOk ρ base w s { r with own := false } := ⟨h.n, h.rows, h.pos, fun k hk => h.lt k (blk_mono hk), fun ho => (by cases ho), h.rd⟩

/-- A cut between two numbers. -/
theorem snd_cut (hT : ∀ t i, (t, i) ∈ cx.ty → TIok P t i) {t : Nat} {x : Operand} {lo hi' : Option Operand} {kw : Kw} (hop : o.op = .slice t x lo hi' none) {id : Nat} (hx : vw.ev x = some (.one (.sl id))) {i : TI} (hi : lookN t cx.ty = some i) {et : Nat} (ha : i.sle = some et) {ie : TI} (hie : lookN et cx.ty = some ie)
    {r : RowOb} (hr : vw.sw id = some r) (hks : r.ks.length = ie.size) {L H : Nat}
    (hlo : (lo = none ∧ L = 0) ∨ ∃ y kd e, lo = some y ∧ vw.ev y = some (.one (.int kd e)) ∧ e.I ρ = (L : Int)) (hhi : (hi' = none ∧ H = (r.l.R ρ).length) ∨ ∃ y kd e, hi' = some y ∧ vw.ev y = some (.one (.int kd e)) ∧ e.I ρ = (H : Int))
    {l' : E} (hl' : l'.R ρ = ((r.l.R ρ).take H).drop L) (hLH : L ≤ H ∧ H ≤ (r.l.R ρ).length)
    (h : (k { val := .one (.sl vw.nid), rr := [id], re := .view id { r with own := false } ⟨r.ks, et, l', false, .sl⟩ } kw).holds sp G ρ I) (hg : Good sp cx.sm ρ kw) : Sound P sp ρ G I base cx vw o k kw := by
  refine ⟨_, kw, h, hg, .refl _, fun j a w hbw hev hrd hwr hrr hfb K Q hK => ?_⟩
  obtain ⟨s, hs, hok⟩ := hrr.sl id (by simp) r hr
  have hd := sl_of hs (hev x (by simp [hop, Op.operands]) _ hx)
  have hu := (hT _ _ (lookN_mem hi)).sle et ha
  have hsz := (hT _ _ (lookN_mem hie)).size w
  rw [← hks] at hsz
  have hn := hok.n
  have hl1 : (lo.map a.eval = none ∧ L = 0) ∨ ∃ kd : IntKind, lo.map a.eval = some (.int kd (L : Int)) := by
    rcases hlo with ⟨rfl, h0⟩ | ⟨y, kd, e, rfl, hy, he⟩
    · exact .inl ⟨rfl, h0⟩
    · exact .inr ⟨kd, by rw [Option.map_some, one_int (hev y (by simp [hop, Op.operands]) _ hy), he]⟩
  have hh1 : (hi'.map a.eval = none ∧ H = s.n) ∨ ∃ kd : IntKind, hi'.map a.eval = some (.int kd (H : Int)) := by
    rcases hhi with ⟨rfl, h0⟩ | ⟨y, kd, e, rfl, hy, he⟩
    · exact .inl ⟨rfl, by rw [h0, hn]⟩
    · exact .inr ⟨kd, by rw [Option.map_some, one_int (hev y (by simp [hop, Op.operands]) _ hy), he]⟩
  have hrun := run_slice_ok (P := P) hu hsz s L H _ _ hl1 hh1 hLH.1 (by omega) hok.rd.2.1
  refine wp_val (w' := w) (v := (⟨if s.c = L then s.a else s.a.map (·.add (L * r.ks.length)), H - L, s.c - L⟩ : SV).v) ?_ (hK _ (j.putS vw.nid ⟨if s.c = L then s.a else s.a.map (·.add (L * r.ks.length)), H - L, s.c - L⟩) w sl_putS ⟨rfl, s, _, hs, hok.shut.row (Vw.sw_some hr).2, (cut_row (q := ⟨r.ks, et, l', false, .sl⟩) hok ⟨rfl, rfl⟩ hl' hLH.1 (by omega)).row rfl, cut_block, rfl⟩)
  simp only [execOp, hop, hd, Option.map_none, Sem.run_bind, hrun, Result.andThen_ok, Sem.run_pure]
theorem snd_whole (hT : ∀ t i, (t, i) ∈ cx.ty → TIok P t i) {t : Nat} {x : Operand} {kw : Kw} (hop : o.op = .slice t x none none none) {id : Nat} (hx : vw.ev x = some (.one (.sl id))) {i : TI} (hi : lookN t cx.ty = some i) {et : Nat} (ha : i.sle = some et) {ie : TI} (hie : lookN et cx.ty = some ie)
    (h : (k { val := .one (.sl id) } kw).holds sp G ρ I) (hg : Good sp cx.sm ρ kw) : Sound P sp ρ G I base cx vw o k kw := by
  refine ⟨_, kw, h, hg, .refl _, OpOk.pure fun j a w _ hev _ _ _ => ?_⟩
  have hd := hev x (by simp [hop, Op.operands]) _ hx
  refine ⟨_, hd, ?_⟩
  simp only [V.den, C.den, Option.map_eq_some_iff] at hd
  obtain ⟨s, _, hs⟩ := hd
  have hu := (hT _ _ (lookN_mem hi)).sle et ha
  have hsz := (hT _ _ (lookN_mem hie)).size w
  obtain ⟨sa, sn, sc⟩ := s
  have e0 : ∀ a : Addr, a.add 0 = a := fun a => by simp [Addr.add]
  have e : (if sc = 0 then sa else sa.map fun x => x.add 0) = sa := by
    split
    · rfl
    · cases sa <;> simp [e0]
  simp [execOp, hop, ← hs, SV.v, Instr.sliceAt, Instr.slice, run_underlying hu, Sem.run_bind, Instr.sliceBounds, hsz, e, e0]

/-! ### Counted -/
theorem lenE_ok {kw : Kw} {l : E} (hl : (l.R ρ).length ≤ maxLen) : (lenE kw.vk l).I ρ = ((l.R ρ).length : Int) := by
  have h := mkLen_I ρ l
  unfold lenE
  split
  · rename_i z hz; rw [hz] at h; exact h
  · rename_i e hne
    split
    · exact h
    · show IntKind.i64.wrap _ = _
      rw [h]
      refine wrap_in ?_
      rw [inK_iff]
      simp only [maxLen] at hl
      simp only [IntKind.min, IntKind.max, IntKind.signed, IntKind.bits]
      simp
      omega
theorem snd_len (hT : ∀ t i, (t, i) ∈ cx.ty → TIok P t i) {c : Call} {kw : Kw} (hop : o.op = .call c) (hc : c.callee = .builtin .len) {id t : Nat} (hl : evL vw.ev c.args.toList = some [.one (.sl id)]) (hty : c.argTypes.toList = [t]) {i : TI} (hi : lookN t cx.ty = some i) (hsl : i.sle.isSome = true) {r : RowOb} (hr : vw.sw id = some r)
    (h : (k { val := .one (.int .i64 (lenE kw.vk r.l)), rr := [id] } kw).holds sp G ρ I) (hg : Good sp cx.sm ρ kw) : Sound P sp ρ G I base cx vw o k kw := by
  refine ⟨_, kw, h, hg, .refl _, OpOk.pure fun j a w _ hev _ hrr _ => ?_⟩
  obtain ⟨s, hs, hok⟩ := hrr.sl id (by simp) r hr
  obtain ⟨h1, h2⟩ := evL_ok (j := j) (a := a) hl (fun x hx => hev x (by simp [hop, Op.operands, Call.operands]; exact .inr (by simpa using hx)))
  have h3 : c.args.map a.eval = #[s.v] := by
    have : c.args.toList.map a.eval = [s.v] := by
      match hm : c.args.toList.map a.eval, h2 with
      | [u], _ => rw [hm] at h1; rw [sl_of hs (h1 0 _ u rfl rfl)]
    rw [← Array.toArray_toList (xs := c.args.map a.eval), Array.toList_map, this]
  obtain ⟨et, het⟩ := Option.isSome_iff_exists.1 hsl
  have hu := (hT _ _ (lookN_mem hi)).sle et het
  have hat : c.argTypes = #[t] := by rw [← Array.toArray_toList (xs := c.argTypes), hty]
  have hle : (r.l.R ρ).length ≤ maxLen := hok.rows.len
  refine ⟨.int .i64 (s.n : Int), by rw [hok.n]; simp [V.den, C.den, lenE_ok hle], ?_⟩
  simp [execOp, hop, resolve, hc, h3, hat, Sem.run_bind, invoke, builtin, Builtin.len_, run_underlying hu, SV.v, goInt]
theorem snd_len0 (hT : ∀ t i, (t, i) ∈ cx.ty → TIok P t i) {c : Call} {kw : Kw} (hop : o.op = .call c) (hc : c.callee = .builtin .len) {t : Nat} (hl : evL vw.ev c.args.toList = some [.one .nsl]) (hty : c.argTypes.toList = [t]) {i : TI} (hi : lookN t cx.ty = some i) (hsl : i.sle.isSome = true)
    (h : (k { val := .one (.int .i64 (.lit 0)) } kw).holds sp G ρ I) (hg : Good sp cx.sm ρ kw) : Sound P sp ρ G I base cx vw o k kw := by
  refine ⟨_, kw, h, hg, .refl _, OpOk.pure fun j a w _ hev _ hrr _ => ?_⟩
  obtain ⟨h1, h2⟩ := evL_ok (j := j) (a := a) hl (fun x hx => hev x (by simp [hop, Op.operands, Call.operands]; exact .inr (by simpa using hx)))
  have h3 : c.args.map a.eval = #[.slice none 0 0] := by
    have : c.args.toList.map a.eval = [.slice none 0 0] := by
      match hm : c.args.toList.map a.eval, h2 with
      | [u], _ => rw [hm] at h1; rw [nsl_of (h1 0 _ u rfl rfl)]
    rw [← Array.toArray_toList (xs := c.args.map a.eval), Array.toList_map, this]
  obtain ⟨et, het⟩ := Option.isSome_iff_exists.1 hsl
  have hu := (hT _ _ (lookN_mem hi)).sle et het
  have hat : c.argTypes = #[t] := by rw [← Array.toArray_toList (xs := c.argTypes), hty]
  refine ⟨.int .i64 0, rfl, ?_⟩
  simp [execOp, hop, resolve, hc, h3, hat, Sem.run_bind, invoke, builtin, Builtin.len_, run_underlying hu, goInt]

/-! ### Lengthened -/
theorem own_sv {w : World} {base ty esz n : Nat} {v : Value} {xs : List Value} (h : w.ownsRow base ty esz v n xs) : ∃ s : SV, v = s.v ∧ s.n = n := by
  rcases h.2 with ⟨rfl, rfl⟩ | ⟨g, cap, cur, rfl, _⟩
  · exact ⟨⟨none, 0, 0⟩, rfl, rfl⟩
  · exact ⟨⟨some ⟨g, 0, none⟩, n, cap⟩, rfl, rfl⟩
theorem run_append_rows {w : World} {base t ty e : Nat} {inf : TypeInfo} {z : Value} (ht : P.underlying t = some (.slice e)) (hi : P.info? e = some inf) (hz : inf.zero = some z) (hzs : z.cells.size = inf.size) (hsz : 0 < inf.size) {v : Value} {n : Nat} {xs : List Value} (hown : w.ownsRow base e inf.size v n xs)
    {x : SV} {news : List Value} (hrd : RdRow w inf.size x news) (h1 : ∀ u ∈ news, u.oneCell' = true) (h63 : n + x.n ≤ maxLen) (hbytes : (n + x.n) * inf.bytes ≤ 140737488355328) (hbase : base ≤ w.heap.size) :
    ∃ s' w', (Builtin.append_ #[t, t] ty #[v, x.v]).run P w = .ok (SV.v s') w' ∧ s'.n = n + x.n ∧ w'.ownsRow base e inf.size s'.v (n + x.n) (xs ++ news) ∧ w.grownBy w' v.ownBlock ∧ (s'.v.ownBlock = v.ownBlock ∨ s'.v.ownBlock = some w.heap.size) := by
  obtain ⟨xa, xn, xc⟩ := x
  cases xa with
  | none =>
    obtain ⟨h2, h3⟩ := hrd.2.2.2.1 rfl
    simp only at h2 h3
    subst h2 h3
    have hnil : news = [] := by
      have := hrd.1
      simp only [Nat.zero_mul] at this
      exact List.eq_nil_of_length_eq_zero this
    subst hnil
    obtain ⟨s, rfl, hn⟩ := own_sv hown
    exact ⟨s, w, run_append_owned_none w base t ty e inf inf.size ht hi _ n xs hown, hn, by simpa using hown, ⟨rfl, rfl, rfl, Nat.le_refl _, fun _ _ _ => rfl⟩, .inl rfl⟩
  | some a =>
    obtain ⟨v', w', hr, h2, h3, _, h5⟩ := run_append_own_at (P := P) w base t ty e inf z inf.size inf.bytes ht hi hz rfl rfl hzs hsz v n xs hown a xn xc news hrd.1 (fun j u hj => hrd.2.2.2.2 a rfl j u hj) h1 h63 hbytes hbase
    obtain ⟨s, rfl, hn⟩ := own_sv h2
    exact ⟨s, w', hr, hn, h2, h3, h5⟩
theorem args2 {c : Call} {a : Act} {j : J} {v1 v2 : V} (hl : evL vw.ev c.args.toList = some [v1, v2]) (hev : ∀ x ∈ c.args.toList, ∀ v, vw.ev x = some v → v.den ρ j = some (a.eval x)) : ∃ u1 u2, c.args.map a.eval = #[u1, u2] ∧ v1.den ρ j = some u1 ∧ v2.den ρ j = some u2 := by
  obtain ⟨h1, h2⟩ := evL_ok (j := j) (a := a) hl hev
  match hm : c.args.toList.map a.eval, h2 with
  | [u1, u2], _ =>
    rw [hm] at h1
    exact ⟨u1, u2, by rw [← Array.toArray_toList (xs := c.args.map a.eval), Array.toList_map, hm], h1 0 _ u1 rfl rfl, h1 1 _ u2 rfl rfl⟩
theorem catE_R (ρ : Env) (a b : E) : (catE a b).R ρ = a.R ρ ++ b.R ρ := by
  unfold catE
  split
  · simp [E.R]
  · split <;> simp [E.R]

theorem snd_append0 (hT : ∀ t i, (t, i) ∈ cx.ty → TIok P t i) {c : Call} {kw : Kw} (hop : o.op = .call c) (hc : c.callee = .builtin .append) {id t : Nat} (hl : evL vw.ev c.args.toList = some [.one .nsl, .one (.sl id)]) (hty : c.argTypes.toList = [t, t]) {i : TI} (hi : lookN t cx.ty = some i) {et : Nat} (ha : i.sle = some et) {ie : TI} (hie : lookN et cx.ty = some ie)
    {r : RowOb} (hr : vw.sw id = some r) (hq : r.ty = et ∧ r.ks.length = ie.size ∧ 0 < ie.size ∧ ie.bytes ≤ 65536)
    (h : (decK (mkLt (mkLen r.l) (.lit bigB)) (fun b kw => if b then k { val := .one (.sl vw.nid), rr := [id], re := .mk [⟨r.ks, et, r.l, true, .sl⟩] } kw else .panic) kw).holds sp G ρ I) (hg : Good sp cx.sm ρ kw) : Sound P sp ρ G I base cx vw o k kw := by
  obtain ⟨kw1, h1, g1, _, l1⟩ := decK_ok _ _ _ h hg
  rw [mkLt_B, mkLen_I] at h1
  split at h1
  · rename_i hbig
    have hbig' : ((r.l.R ρ).length : Int) < 1073741824 := of_decide_eq_true hbig
    refine ⟨_, kw1, h1, g1, l1, fun j a w hb hev hrd hwr hrr hfb K Q hK => ?_⟩
    obtain ⟨s, hs, hok⟩ := hrr.sl id (by simp) r hr
    obtain ⟨u1, u2, hargs, hd1, hd2⟩ := args2 (j := j) (a := a) hl (fun x hx => hev x (by simp [hop, Op.operands, Call.operands]; exact .inr (by simpa using hx)))
    have e1 := nsl_of hd1
    have e2 := sl_of hs hd2
    subst e1 e2
    have hu := (hT _ _ (lookN_mem hi)).sle et ha
    obtain ⟨inf, z, hinf, hisz, hbytes, hz, hzl, hzd⟩ := (hT _ _ (lookN_mem hie)).info
    have hat : c.argTypes = #[t, t] := by rw [← Array.toArray_toList (xs := c.argTypes), hty]
    have hn := hok.n
    have hrd' := hok.rd
    rw [hq.2.1, ← hisz] at hrd'
    obtain ⟨s', w', h2, h3, h4, h5, h6⟩ := run_append_rows (P := P) (base := w.heap.size) (ty := o.type) hu hinf hz (by rw [hisz]; simpa using hzl) (by omega) (World.ownsRow_nil w w.heap.size et inf.size) hrd' flat_one (by simp only [maxLen]; omega)
      (by
        have : (0 + s.n) * inf.bytes ≤ 1073741824 * 65536 := Nat.mul_le_mul (by omega) (by omega)
        omega) (Nat.le_refl _)
    simp only [Nat.zero_add, List.nil_append] at h3 h4
    rw [hisz, ← hq.2.1, ← h3] at h4
    refine wp_val (w' := w') (v := s'.v) ?_ (hK _ (j.putL vw.nid [s']) _ sl_put (mk_one (Ext.of_grown h5) (RowOk.mk_own (r := ⟨r.ks, et, r.l, true, .sl⟩) rfl (by rw [h3]; exact hn) hok.rows hok.pos h4) rfl rfl))
    simp only [execOp, hop, resolve, hc, hargs, hat, Sem.run_bind, Sem.run_pure, Result.andThen_ok, invoke, builtin, h2]
  · exact h1.elim
theorem snd_append (hT : ∀ t i, (t, i) ∈ cx.ty → TIok P t i) {c : Call} {kw : Kw} (hop : o.op = .call c) (hc : c.callee = .builtin .append) {old id t : Nat} (hl : evL vw.ev c.args.toList = some [.one (.sl old), .one (.sl id)]) (hty : c.argTypes.toList = [t, t]) {i : TI} (hi : lookN t cx.ty = some i) {et : Nat} (ha : i.sle = some et) {ie : TI} (hie : lookN et cx.ty = some ie)
    {r q : RowOb} (hr : vw.sw id = some r) (hrq : vw.sw old = some q) (hq : r.ty = et ∧ r.ks.length = ie.size ∧ 0 < ie.size ∧ ie.bytes ≤ 65536) (hq2 : q.own = true ∧ q.ty = et ∧ q.ks = r.ks)
    (h : (decK (mkAnd (mkLt (mkLen q.l) (.lit bigB)) (mkLt (mkLen r.l) (.lit bigB))) (fun b kw => if b then k { val := .one (.sl vw.nid), rr := [old, id], re := .app old ⟨r.ks, et, catE q.l r.l, true, .sl⟩ } kw else .panic) kw).holds sp G ρ I) (hg : Good sp cx.sm ρ kw) : Sound P sp ρ G I base cx vw o k kw := by
  obtain ⟨kw1, h1, g1, _, l1⟩ := decK_ok _ _ _ h hg
  rw [mkAnd_B, mkLt_B, mkLt_B, mkLen_I, mkLen_I] at h1
  split at h1
  · rename_i hbig
    rw [Bool.and_eq_true] at hbig
    have hb1 : ((q.l.R ρ).length : Int) < 1073741824 := of_decide_eq_true hbig.1
    have hb2 : ((r.l.R ρ).length : Int) < 1073741824 := of_decide_eq_true hbig.2
    refine ⟨_, kw1, h1, g1, l1, fun j a w hb hev hrd hwr hrr hfb K Q hK => ?_⟩
    obtain ⟨s, hs, hok⟩ := hrr.sl id (by simp) r hr
    obtain ⟨p, hp, hop'⟩ := hrr.sl old (by simp) q hrq
    obtain ⟨u1, u2, hargs, hd1, hd2⟩ := args2 (j := j) (a := a) hl (fun x hx => hev x (by simp [hop, Op.operands, Call.operands]; exact .inr (by simpa using hx)))
    have e1 := sl_of hp hd1
    have e2 := sl_of hs hd2
    subst e1 e2
    have hu := (hT _ _ (lookN_mem hi)).sle et ha
    obtain ⟨inf, z, hinf, hisz, hbytes, hz, hzl, hzd⟩ := (hT _ _ (lookN_mem hie)).info
    have hat : c.argTypes = #[t, t] := by rw [← Array.toArray_toList (xs := c.argTypes), hty]
    have hn := hok.n
    have hpn := hop'.n
    have hown := hop'.own hq2.1
    rw [hq2.2.1, hq2.2.2, hq.2.1, ← hisz] at hown
    have hrd' := hok.rd
    rw [hq.2.1, ← hisz] at hrd'
    obtain ⟨s', w', h2, h3, h4, h5, h6⟩ := run_append_rows (P := P) (base := base) (ty := o.type) hu hinf hz (by rw [hisz]; simpa using hzl) (by omega) hown hrd' flat_one (by simp only [maxLen]; omega)
      (by
        have : (p.n + s.n) * inf.bytes ≤ 2147483648 * 65536 := Nat.mul_le_mul (by omega) (by omega)
        omega) hb
    rw [← flat_append, hisz, ← hq.2.1, ← h3] at h4
    have hR : (catE q.l r.l).R ρ = q.l.R ρ ++ r.l.R ρ := catE_R ρ _ _
    refine wp_val (w' := w') (v := s'.v) ?_ (hK _ (j.putS vw.nid s') _ sl_putS ⟨p, s', hp, h5, RowOk.mk_own (r := ⟨r.ks, et, catE q.l r.l, true, .sl⟩) rfl ?_ ⟨fun x hx => ?_, ?_⟩ hok.pos (by simp only [hR]; exact h4), h6, rfl⟩)
    · simp only [execOp, hop, resolve, hc, hargs, hat, Sem.run_bind, Sem.run_pure, Result.andThen_ok, invoke, builtin, h2]
    · simp only [hR, List.length_append]; omega
    · simp only [hR, List.mem_append] at hx
      rcases hx with hx | hx
      · have := hop'.rows.row x hx; rw [hq2.2.2] at this; exact this
      · exact hok.rows.row x hx
    · simp only [hR, List.length_append, maxLen]; omega
  · exact h1.elim
end
end Go.Proofs.Ytmkaphfdgdkaoaa
