/- Texts SyG, SyG2, SyG3, SyG5, SyG6, SyG4, SyH, SyH2 in one. -/
import Derived.Test.YtgfghplnankgnaaSyZa
import Derived.Maps.RangeRun
import Derived.Sort.Row
/- The run of an operation is sound: indices and pointers into rows, loads and stores there. Nothing of the program is in here. -/
set_option linter.unusedVariables false
set_option linter.unusedSimpArgs false
namespace Go.Proofs.Ytgfghplnankgnaa
open Go.RowKit

section
variable {P : Program} {sp : Spec} {ρ : Env} {G : Env → E → Prop} {I : Nat → List Dt → Prop} {base : Nat} {cx : Cx} {vw : Vw} {o : Oper} {k : Eff → Kw → Tr}

theorem pickK_ok {e : E} {n : Nat} {kk : Nat → Kw → Tr} : ∀ (m : Nat) (kw : Kw), m ≤ n → (pickK e n kk m kw).holds sp G ρ I → Good sp cx.sm ρ kw → ∃ i kw', i < n ∧ e.I ρ = (i : Int) ∧ (kk i kw').holds sp G ρ I ∧ Good sp cx.sm ρ kw' ∧ KwGe kw' kw
  | 0, kw, _, h, hg => h.elim
  | m + 1, kw, hm, h, hg => by
    simp only [pickK] at h
    obtain ⟨kw1, h1, g1, _, l1⟩ := decK_ok _ _ _ h hg
    rw [mkEq_B] at h1
    split at h1
    · rename_i hb
      have hb' : e.I ρ = ((n - (m + 1) : Nat) : Int) := by simpa [E.I] using hb
      exact ⟨n - (m + 1), kw1, by omega, hb', h1, g1, l1⟩
    · obtain ⟨i, kw2, h2, h3, h4, g2, l2⟩ := pickK_ok m kw1 (by omega) h1 g1
      exact ⟨i, kw2, h2, h3, h4, g2, l2.trans l1⟩

theorem snd_indexAddr (hT : ∀ t i, (t, i) ∈ cx.ty → TIok P t i) {t : Nat} {x y : Operand} {kw : Kw} (hop : o.op = .indexAddr t x y) {c : C} {c' : Nat → C} (hx : vw.ev x = some (.one c)) {k0 : IntKind} {e : E} (hy : vw.ev y = some (.one (.int k0 e))) {i : TI} (hi : lookN t cx.ty = some i)
    {n et : Nat} (ha : i.arr = some (n, et)) {ie : TI} (hie : lookN et cx.ty = some ie) (hmv : ∀ m j v, c.den ρ j = some v → ∃ a, v = .pointer (some a) ∧ (c' m).den ρ j = some (.pointer (some (a.add (m * ie.size)))))
    (h : (pickK e n (fun m kw => k { val := .one (c' m) } kw) n kw).holds sp G ρ I) (hg : Good sp cx.sm ρ kw) : Sound P sp ρ G I base cx vw o k kw := by
  obtain ⟨m, kw', hm, he, h1, g1, l1⟩ := pickK_ok n kw (Nat.le_refl _) h hg
  have hu := (hT _ _ (lookN_mem hi)).arr n et ha
  have hs := (hT _ _ (lookN_mem hie)).size
  refine ⟨_, kw', h1, g1, l1, OpOk.pure fun j a w _ hev _ _ _ => ?_⟩
  obtain ⟨p, hp, hd⟩ := hmv m j _ (hev x (by simp [hop, Op.operands]) _ hx)
  have hq := one_int (hev y (by simp [hop, Op.operands]) _ hy)
  refine ⟨_, hd, ?_⟩
  have hlt : (0 : Int) ≤ (m : Int) ∧ (m : Int) < (n : Int) := by omega
  simp [execOp, hop, hp, hq, he, Instr.indexAt, run_underlying hu, Instr.sureAddr, asIntOf, hlt, hs, Sem.run_bind]
  omega

theorem snd_index (hT : ∀ t i, (t, i) ∈ cx.ty → TIok P t i) {t : Nat} {x y : Operand} {kw : Kw} (hop : o.op = .index t x y) {cs : List C} (hx : vw.ev x = some (.agg cs)) {k0 : IntKind} {e : E} (hy : vw.ev y = some (.one (.int k0 e))) {i : TI} (hi : lookN t cx.ty = some i)
    {n et : Nat} (ha : i.arr = some (n, et)) {ie : TI} (hie : lookN et cx.ty = some ie) (h : (pickK e n (fun m kw => match partV cx et cs (m * ie.size) with | some v => k { val := v } kw | none => .stuck 30) n kw).holds sp G ρ I) (hg : Good sp cx.sm ρ kw) : Sound P sp ρ G I base cx vw o k kw := by
  obtain ⟨m, kw', hm, he, h1, g1, l1⟩ := pickK_ok n kw (Nat.le_refl _) h hg
  have hu := (hT _ _ (lookN_mem hi)).arr n et ha
  have hs := (hT _ _ (lookN_mem hie)).size
  split at h1
  · rename_i v hv
    refine ⟨_, kw', h1, g1, l1, OpOk.pure fun j a w _ hev _ _ _ => ?_⟩
    have hd := hev x (by simp [hop, Op.operands]) _ hx
    simp only [V.den, Option.map_eq_some_iff] at hd
    obtain ⟨vs, hvs, hp⟩ := hd
    have hq := one_int (hev y (by simp [hop, Op.operands]) _ hy)
    obtain ⟨u, hu', hr⟩ := part_ok hT hv hvs w
    refine ⟨u, hu', ?_⟩
    have hlt : (0 : Int) ≤ (m : Int) ∧ (m : Int) < (n : Int) := by omega
    simp [execOp, hop, ← hp, hq, he, Instr.index, run_underlying hu, asIntOf, hlt, hs, Sem.run_bind, hr]
    omega
  · exact h1.elim

theorem inB_B (ρ : Env) (e l : E) : (inB e l).B ρ = (decide (0 ≤ e.I ρ) && decide (e.I ρ < ((l.R ρ).length : Int))) := by
  simp only [inB, mkAnd_B, mkNot_B, mkLt_B, mkLen_I, E.I]
  rw [not_lt_le]
  rfl

theorem snd_indexRow (hT : ∀ t i, (t, i) ∈ cx.ty → TIok P t i) {t : Nat} {x y : Operand} {kw : Kw} (hop : o.op = .indexAddr t x y) {id : Nat} (hx : vw.ev x = some (.one (.sl id))) {k0 : IntKind} {e : E} (hy : vw.ev y = some (.one (.int k0 e))) {i : TI} (hi : lookN t cx.ty = some i)
    {et : Nat} (ha : i.sle = some et) {ie : TI} (hie : lookN et cx.ty = some ie) {r : RowOb} (hr : vw.sw id = some r) (hks : r.ks.length = ie.size)
    (h : (decK (inB e r.l) (fun b kw => if b then k { val := .one (.ep id ie.size e 0), rr := [id] } kw else .panic) kw).holds sp G ρ I) (hg : Good sp cx.sm ρ kw) : Sound P sp ρ G I base cx vw o k kw := by
  obtain ⟨kw', h1, g1, _, l1⟩ := decK_ok _ _ _ h hg
  rw [inB_B] at h1
  split at h1
  · rename_i hb
    simp only [Bool.and_eq_true, decide_eq_true_eq] at hb
    refine ⟨_, kw', h1, g1, l1, OpOk.pure fun j a w _ hev _ hrr _ => ?_⟩
    obtain ⟨s, hs, hok⟩ := hrr.sl id (by simp) r hr
    have hd := hev x (by simp [hop, Op.operands]) _ hx
    simp only [V.den, C.den, hs, Option.map_some, Option.some.injEq] at hd
    have hq := one_int (hev y (by simp [hop, Op.operands]) _ hy)
    have hu := (hT _ _ (lookN_mem hi)).sle et ha
    have hsz := (hT _ _ (lookN_mem hie)).size
    obtain ⟨sa, sn, sc⟩ := s
    have hn := hok.n
    simp only at hn
    have hrd := hok.rd
    cases sa with
    | none => have := (hrd.2.2.2.1 rfl).1; simp only at this; omega
    | some p =>
      refine ⟨.pointer (some (p.add ((e.I ρ).toNat * ie.size + 0))), by simp [V.den, C.den, hs, SV.elem], ?_⟩
      have hlt : (0 : Int) ≤ e.I ρ ∧ e.I ρ < (sn : Int) := by omega
      simp [execOp, hop, ← hd, SV.v, hq, Instr.indexAt, run_underlying hu, asIntOf, hlt, hsz, Sem.run_bind]
  · exact h1.elim

theorem run_loadVals {a : Addr} {w : World} : ∀ (vs : List Value) (i : Nat) (acc : Array Value), (∀ m u, vs[m]? = some u → w.cell? (a.add (i + m)) = some u) → (loadCellsFrom a i vs.length acc).run P w = .ok (acc ++ vs.toArray) w
  | [], i, acc, _ => by simp [loadCellsFrom]
  | v :: vs, i, acc, h => by
    have h0 := h 0 v rfl
    simp only [Nat.add_zero] at h0
    simp only [List.length_cons, loadCellsFrom, Sem.run_bind, load, Sem.run, h0, Result.andThen_ok]
    rw [run_loadVals vs (i + 1) _ (fun m u hu => by rw [Nat.add_assoc, Nat.add_comm 1 m]; exact h (m + 1) u (by simpa using hu))]
    simp
theorem denL_of_get {j : J} : ∀ {cs : List C} {vs : List Value}, cs.length = vs.length → (∀ (m : Nat) c, cs[m]? = some c → ∃ u, vs[m]? = some u ∧ c.den ρ j = some u) → denL ρ j cs = some vs
  | [], vs, hl, _ => by
    cases vs with
    | nil => rfl
    | cons => cases hl
  | c :: cs, vs, hl, h => by
    cases vs with
    | nil => cases hl
    | cons v vs =>
      obtain ⟨u, hu, hd⟩ := h 0 c rfl
      simp only [List.getElem?_cons_zero, Option.some.injEq] at hu
      subst hu
      have := denL_of_get (cs := cs) (vs := vs) (by simpa using hl) (fun m c hm => by simpa using h (m + 1) c (by simpa using hm))
      simp [denL, hd, this]
theorem rowOf_get {ld : Nat → Nat → Option C} {b : Nat} : ∀ (n o : Nat) (cs : List C), rowOf ld b o n = some cs → cs.length = n ∧ ∀ m c, cs[m]? = some c → ld b (o + m) = some c
  | 0, o, cs, h => by cases h; exact ⟨rfl, fun m c hm => by simp at hm⟩
  | n + 1, o, cs, h => by
    simp only [rowOf] at h
    cases hc : ld b o with
    | none => rw [hc] at h; cases h
    | some c =>
      cases hl : rowOf ld b (o + 1) n with
      | none => rw [hc, hl] at h; cases h
      | some l =>
        rw [hc, hl] at h; cases h
        obtain ⟨h1, h2⟩ := rowOf_get n (o + 1) l hl
        refine ⟨by simp [h1], fun m c' hm => ?_⟩
        cases m with
        | zero => simp at hm; subst hm; exact hc
        | succ m => rw [show o + (m + 1) = o + 1 + m by omega]; exact h2 m c' (by simpa using hm)

theorem fp_of {j : J} {b off : Nat} {v : Value} (h : (V.one (.fp b off)).den ρ j = some v) : ∃ kk, j.f b = some kk ∧ v = .pointer (some ⟨kk, off, none⟩) := by
  simp only [V.den, C.den, Option.map_eq_some_iff] at h
  obtain ⟨kk, hk, rfl⟩ := h
  exact ⟨kk, hk, rfl⟩
theorem snd_loadF_row (hT : ∀ t i, (t, i) ∈ cx.ty → TIok P t i) {t : Nat} {x : Operand} {kw : Kw} (hop : o.op = .load t x) {b off : Nat} (hx : vw.ev x = some (.one (.fp b off))) {i : TI} (hi : lookN t cx.ty = some i) (hagg : i.agg = true) {cs : List C} (hcs : rowOf (fun b o => (vw.fb b).bind (·[o]?)) b off i.size = some cs)
    (h : (k { val := .agg cs } kw).holds sp G ρ I) (hg : Good sp cx.sm ρ kw) : Sound P sp ρ G I base cx vw o k kw := by
  refine ⟨_, kw, h, hg, .refl _, OpOk.pure fun j a w _ hev _ _ hfb => ?_⟩
  have ht := hT _ _ (lookN_mem hi)
  obtain ⟨kk, hk, he⟩ := fp_of (hev x (by simp [hop, Op.operands]) _ hx)
  obtain ⟨hlen, hget⟩ := rowOf_get _ _ _ hcs
  by_cases h0 : i.size = 0
  · have hnil : cs = [] := List.eq_nil_of_length_eq_zero (by omega)
    subst hnil
    refine ⟨.agg #[], rfl, ?_⟩
    simp [execOp, hop, he, Instr.loadAt, Instr.sureAddr, Sem.run_bind, loadVar, ht.agg, hagg, ht.size, loadCells, h0, loadCellsFrom]
  have hcont : ∃ c0, vw.fb b = some c0 := by
    cases hb : vw.fb b with
    | some c0 => exact ⟨c0, rfl⟩
    | none =>
      exfalso
      have h1 : 0 < cs.length := by omega
      have := hget 0 cs[0] (List.getElem?_eq_getElem h1)
      simp [hb] at this
  obtain ⟨c0, hc0⟩ := hcont
  obtain ⟨kk', vs, h1, _, h2, h3⟩ := hfb b c0 hc0
  rw [hk] at h1; cases h1
  have hv : ∀ m c, cs[m]? = some c → ∃ u, vs[off + m]? = some u ∧ c.den ρ j = some u := fun m c hm => by
    have := hget m c hm
    simp only [hc0, Option.bind_some] at this
    exact denL_get h2 (off + m) c this
  have hus : denL ρ j cs = some ((vs.drop off).take i.size) := by
    refine denL_of_get ?_ (fun m c hm => ?_)
    · rw [List.length_take, List.length_drop, hlen]
      obtain ⟨u, hu, _⟩ := hv (cs.length - 1) cs[cs.length - 1] (List.getElem?_eq_getElem (by omega))
      have := (List.getElem?_eq_some_iff.1 hu).1
      omega
    · obtain ⟨u, hu, hd⟩ := hv m c hm
      refine ⟨u, ?_, hd⟩
      have hlt := (List.getElem?_eq_some_iff.1 hm).1
      rw [List.getElem?_take, if_pos (by omega), List.getElem?_drop]
      exact hu
  have hl := denL_length hus
  refine ⟨_, by simp only [V.den, hus]; rfl, ?_⟩
  have h4 := run_loadVals (P := P) (a := ⟨kk, off, none⟩) (w := w) ((vs.drop off).take i.size) 0 #[] (fun m u hu => by
    rw [add_none, Nat.zero_add]
    have hlt : m < i.size := by
      have := (List.getElem?_eq_some_iff.1 hu).1
      rw [List.length_take] at this; omega
    rw [List.getElem?_take, if_pos hlt, List.getElem?_drop] at hu
    exact h3 _ u hu)
  rw [hl, hlen] at h4
  simp [execOp, hop, he, Instr.loadAt, Instr.sureAddr, Sem.run_bind, loadVar, ht.agg, hagg, ht.size, loadCells, h4]
theorem snd_loadF_one (hT : ∀ t i, (t, i) ∈ cx.ty → TIok P t i) {t : Nat} {x : Operand} {kw : Kw} (hop : o.op = .load t x) {b off : Nat} (hx : vw.ev x = some (.one (.fp b off))) {i : TI} (hi : lookN t cx.ty = some i) (hagg : ¬ i.agg = true) {c : C} (hc : (vw.fb b).bind (·[off]?) = some c)
    (h : (k { val := .one c } kw).holds sp G ρ I) (hg : Good sp cx.sm ρ kw) : Sound P sp ρ G I base cx vw o k kw := by
  refine ⟨_, kw, h, hg, .refl _, OpOk.pure fun j a w _ hev _ _ hfb => ?_⟩
  have ht := hT _ _ (lookN_mem hi)
  obtain ⟨kk, hk, he⟩ := fp_of (hev x (by simp [hop, Op.operands]) _ hx)
  rw [Option.bind_eq_some_iff] at hc
  obtain ⟨c0, hc0, hc⟩ := hc
  obtain ⟨kk', vs, h1, _, h2, h3⟩ := hfb b c0 hc0
  rw [hk] at h1; cases h1
  obtain ⟨u, hu, hd⟩ := denL_get h2 off c hc
  have hagg' : i.agg = false := by simpa using hagg
  have h4 := h3 off u hu
  exact ⟨u, hd, by simp [execOp, hop, he, Instr.loadAt, Instr.sureAddr, Sem.run_bind, loadVar, ht.agg, hagg', load, Sem.run, h4]⟩

/-! ### Rows: loads -/
theorem ep_of {j : J} {id esz off : Nat} {e : E} {v : Value} {s : SV} (hs : j.s id = some s) (h : (V.one (.ep id esz e off)).den ρ j = some v) : ∃ a, s.a = some a ∧ v = .pointer (some (a.add ((e.I ρ).toNat * esz + off))) := by
  simp only [V.den, C.den, hs, Option.bind_some, SV.elem, Option.map_eq_some_iff] at h
  obtain ⟨a, ha, rfl⟩ := h
  exact ⟨a, ha, rfl⟩
theorem rowC_den (ρ : Env) (j : J) (l e : E) (c : Nat) (k : CE) : (rowC l e c k).den ρ j = some (cellV k (gt (l.R ρ) (e.I ρ) c)) := by
  cases k <;> simp [rowC, C.den, cellV, E.I, E.B]
theorem rowCs_get {l e : E} : ∀ {ks : List CE} {c0 m : Nat} {c : C}, (rowCs l e c0 ks)[m]? = some c → ∃ k, ks[m]? = some k ∧ c = rowC l e (c0 + m) k
  | [], c0, m, c, h => by simp [rowCs] at h
  | k :: ks, c0, m, c, h => by
    cases m with
    | zero => simp [rowCs] at h; exact ⟨k, rfl, h.symm⟩
    | succ m =>
      obtain ⟨k', h1, h2⟩ := rowCs_get (ks := ks) (c0 := c0 + 1) (m := m) (by simpa [rowCs] using h)
      exact ⟨k', by simpa using h1, by rw [h2]; congr 1; omega⟩
theorem rowCs_length (l e : E) : ∀ (ks : List CE) (c0 : Nat), (rowCs l e c0 ks).length = ks.length
  | [], _ => rfl
  | k :: ks, c0 => by simp [rowCs, rowCs_length l e ks]

theorem snd_loadE (hT : ∀ t i, (t, i) ∈ cx.ty → TIok P t i) {t : Nat} {x : Operand} {kw : Kw} (hop : o.op = .load t x) {id esz off : Nat} {e : E} (hx : vw.ev x = some (.one (.ep id esz e off))) {i : TI} (hi : lookN t cx.ty = some i) {r : RowOb} (hr : vw.sw id = some r) (hks : r.ks.length = esz) (hoff : off + i.size ≤ esz)
    (h : (decK (inB e r.l) (fun b kw => if b then
            (if i.agg then k { val := .agg (rowCs r.l e off ((r.ks.drop off).take i.size)), rr := [id] } kw
            else match r.ks[off]? with
              | some ck => k { val := .one (rowC r.l e off ck), rr := [id] } kw
              | none => .stuck 53)
            else .stuck 54) kw).holds sp G ρ I) (hg : Good sp cx.sm ρ kw) : Sound P sp ρ G I base cx vw o k kw := by
  obtain ⟨kw', h1, g1, _, l1⟩ := decK_ok _ _ _ h hg
  rw [inB_B] at h1
  have ht := hT _ _ (lookN_mem hi)
  split at h1
  · rename_i hb
    simp only [Bool.and_eq_true, decide_eq_true_eq] at hb
    -- the cells of the element
    have cells : ∀ {j : J} {w : World} {s : SV} {p : Addr}, SlOk ρ base w s r → s.a = some p → ∀ c ck, r.ks[c]? = some ck → w.cell? (p.add ((e.I ρ).toNat * esz + c)) = some (cellV ck (gt (r.l.R ρ) (e.I ρ) c)) := by
      intro j w s p hok hp c ck hck
      have := flat_get hck (i := (e.I ρ).toNat) hok.rows.row (by omega)
      rw [hks] at this
      exact hok.rd.2.2.2.2 p hp _ _ this
    split at h1
    · rename_i hagg
      refine ⟨_, kw', h1, g1, l1, OpOk.pure fun j a w _ hev _ hrr _ => ?_⟩
      obtain ⟨s, hs, hok⟩ := hrr.sl id (by simp) r hr
      obtain ⟨p, hp, he⟩ := ep_of hs (hev x (by simp [hop, Op.operands]) _ hx)
      have hkl : ((r.ks.drop off).take i.size).length = i.size := by rw [List.length_take, List.length_drop]; omega
      have hus : denL ρ j (rowCs r.l e off ((r.ks.drop off).take i.size)) = some ((List.range i.size).map fun m => cellV ((r.ks[off + m]?).getD none) (gt (r.l.R ρ) (e.I ρ) (off + m))) := by
        refine denL_of_get (by rw [rowCs_length, hkl]; simp) (fun m c hm => ?_)
        obtain ⟨ck, hck, rfl⟩ := rowCs_get hm
        have hm' : m < i.size := by
          have := (List.getElem?_eq_some_iff.1 hck).1
          omega
        rw [List.getElem?_take, if_pos hm', List.getElem?_drop] at hck
        refine ⟨_, ?_, rowC_den ρ j _ _ _ _⟩
        simp [hm', hck]
      refine ⟨_, by simp only [V.den, hus]; rfl, ?_⟩
      have h4 := run_loadVals (P := P) (a := p.add ((e.I ρ).toNat * esz + off)) (w := w) ((List.range i.size).map fun m => cellV ((r.ks[off + m]?).getD none) (gt (r.l.R ρ) (e.I ρ) (off + m))) 0 #[] (fun m u hu => by
        rw [Nat.zero_add, addr_add_add, Nat.add_assoc]
        have hm' : m < i.size := by
          have := (List.getElem?_eq_some_iff.1 hu).1
          simpa using this
        obtain ⟨ck, hck⟩ : ∃ ck, r.ks[off + m]? = some ck := ⟨_, List.getElem?_eq_getElem (by omega)⟩
        have := cells (j := j) hok hp (off + m) ck hck
        simp [hm', hck] at hu
        rw [this, hu])
      simp only [List.length_map, List.length_range] at h4
      simp [execOp, hop, he, Instr.loadAt, Instr.sureAddr, Sem.run_bind, loadVar, ht.agg, hagg, ht.size, loadCells, h4]
    · rename_i hagg
      split at h1
      · rename_i ck hck
        refine ⟨_, kw', h1, g1, l1, OpOk.pure fun j a w _ hev _ hrr _ => ?_⟩
        obtain ⟨s, hs, hok⟩ := hrr.sl id (by simp) r hr
        obtain ⟨p, hp, he⟩ := ep_of hs (hev x (by simp [hop, Op.operands]) _ hx)
        have h4 := cells (j := j) hok hp off ck hck
        have hagg' : i.agg = false := by simpa using hagg
        exact ⟨_, rowC_den ρ j _ _ _ _, by simp [execOp, hop, he, Instr.loadAt, Instr.sureAddr, Sem.run_bind, loadVar, ht.agg, hagg', load, Sem.run, h4]⟩
      · exact h1.elim
  · exact h1.elim

/-! ### Rows: stores -/
theorem own_form {w : World} {base ty esz : Nat} {s : SV} {xs : List Value} (h : w.ownsRow base ty esz s.v s.n xs) {p : Addr} (hp : s.a = some p) : ∃ g, p = ⟨g, 0, none⟩ ∧ s.v = .slice (some ⟨g, 0, none⟩) s.n s.c := by
  rcases h.2 with ⟨hv, _⟩ | ⟨g, cap, cur, hv, _⟩
  · simp only [SV.v, hp] at hv; cases hv
  · simp only [SV.v, hp, Value.slice.injEq, Option.some.injEq] at hv
    exact ⟨g, hv.1, by simp only [SV.v, hp, hv.1]⟩
theorem st_rows {ks : List CE} {L : List (List Int)} {c : Nat} {k : CE} (hk : ks[c]? = some k) {x : Int} (hx : inCE k x = true) (h : RowsIn ks L) (i : Int) : RowsIn ks (st L i c x) := by
  refine ⟨fun r hr => ?_, by rw [st_length]; exact h.len⟩
  rcases mem_st hr with hr | ⟨r0, hr0, rfl⟩
  · exact h.row r hr
  · exact rowIn_set (h.row r0 hr0) hk hx
theorem run_storeRow {ty g n cap : Nat} {e : E} {j : J} {vk : List VK} (hv : Vk ρ vk) : ∀ (ks0 : List CE) (cs : List C) (l l' : E) (off i0 : Nat) (vs : List Value) (w : World) (p : Addr),
    rowPut vk l e off ks0 cs = some l' → denL ρ j cs = some vs → ∀ ks : List CE, (∀ m : Nat, ks0[m]? = ks[off + m]?) → RowsIn ks (l.R ρ) → (e.I ρ).toNat < (l.R ρ).length → w.ownsRow base ty ks.length (.slice (some ⟨g, 0, none⟩) n cap) n (flat ks (l.R ρ)) → (∀ m, p.add (i0 + m) = ⟨g, (e.I ρ).toNat * ks.length + (off + m), none⟩) →
    ∃ w', (storeCells p vs i0).run P w = .ok () w' ∧ w'.ownsRow base ty ks.length (.slice (some ⟨g, 0, none⟩) n cap) n (flat ks (l'.R ρ)) ∧ w.grownBy w' (some g) ∧ RowsIn ks (l'.R ρ) ∧ (l'.R ρ).length = (l.R ρ).length
  | ks0, [], l, l', off, i0, vs, w, p, hput, hd, ks, hsub, hrows, hi, hown, hp => by
    have e1 : l' = l := by
      unfold rowPut at hput
      cases ks0 with
      | nil => exact (Option.some.inj hput).symm
      | cons k ks0 => cases k <;> exact (Option.some.inj hput).symm
    subst e1
    cases hd
    exact ⟨w, by simp [storeCells], hown, ⟨rfl, rfl, rfl, Nat.le_refl _, fun _ _ _ => rfl⟩, hrows, rfl⟩
  | [], c :: cs, l, l', off, i0, vs, w, p, hput, hd, ks, hsub, hrows, hi, hown, hp => by simp [rowPut] at hput
  | k :: ks0, c :: cs, l, l', off, i0, vs, w, p, hput, hd, ks, hsub, hrows, hi, hown, hp => by
    simp only [denL] at hd
    cases hc : c.den ρ j with
    | none => rw [hc] at hd; cases hd
    | some v =>
      cases hl : denL ρ j cs with
      | none => rw [hc, hl] at hd; cases hd
      | some us =>
        rw [hc, hl] at hd; cases hd
        have hk : ks[off]? = some k := by have := hsub 0; simpa using this.symm
        have hn : (flat ks (l.R ρ)).length = (l.R ρ).length * ks.length := flat_length hrows.row
        have hcl : off < ks.length := (List.getElem?_eq_some_iff.1 hk).1
        -- one cell
        have step : ∀ (x : Int) (l1 : E), v = cellV k x → inCE k x = true → l1.R ρ = st (l.R ρ) (e.I ρ) off x → rowPut vk l1 e (off + 1) ks0 cs = some l' →
            ∃ w', (storeCells p (v :: us) i0).run P w = .ok () w' ∧ w'.ownsRow base ty ks.length (.slice (some ⟨g, 0, none⟩) n cap) n (flat ks (l'.R ρ)) ∧ w.grownBy w' (some g) ∧ RowsIn ks (l'.R ρ) ∧ (l'.R ρ).length = (l.R ρ).length := by
          intro x l1 hvx hx hl1 hput'
          have hfs : (flat ks (l.R ρ)).set ((e.I ρ).toNat * ks.length + off) (cellV k x) = flat ks (l1.R ρ) := by rw [hl1]; exact flat_set hk x hrows.row hi
          have hlt : (e.I ρ).toNat * ks.length + off < n * ks.length := by
            have h1 := hown.1
            rw [hn] at h1
            have h2 : ((e.I ρ).toNat + 1) * ks.length ≤ (l.R ρ).length * ks.length := Nat.mul_le_mul_right _ hi
            rw [Nat.succ_mul] at h2
            omega
          have hcell : ∃ u, w.cell? ⟨g, (e.I ρ).toNat * ks.length + off, none⟩ = some u := by
            have h1 := hown.cellAt _ hlt
            have h2 : (e.I ρ).toNat * ks.length + off < (flat ks (l.R ρ)).length := by rw [hown.1]; exact hlt
            exact ⟨_, by rw [h1, List.getElem?_eq_getElem h2]⟩
          obtain ⟨u, hu⟩ := hcell
          have hfr := hown.frozenAt ((e.I ρ).toNat * ks.length + off)
          obtain ⟨h3, h4⟩ := hown.stored ((e.I ρ).toNat * ks.length + off) v
          rw [hvx, hfs] at h3
          have hp0 := hp 0
          simp only [Nat.add_zero] at hp0
          have hone : v.oneCell' = true := by rw [hvx]; cases k <;> rfl
          obtain ⟨w', h5, h6, h7, h8, h9⟩ := run_storeRow hv ks0 cs l1 l' (off + 1) (i0 + 1) us (w.setCell ⟨g, (e.I ρ).toNat * ks.length + off, none⟩ v) p hput' hl ks (fun m => by have := hsub (m + 1); simpa [Nat.add_assoc, Nat.add_comm 1 m] using this)
            (by rw [hl1]; exact st_rows hk hx hrows _) (by rw [hl1, st_length]; exact hi) (by rw [hvx]; exact h3) (fun m => by rw [Nat.add_assoc, Nat.add_comm 1 m, hp (m + 1)]; congr 1; omega)
          refine ⟨w', ?_, h6, h4.trans h7, h8, by rw [h9, hl1, st_length]⟩
          simp only [storeCells, hp0, Sem.run_bind, run_store P w _ v _ hone, hu, hfr, Result.andThen_ok, Bool.false_eq_true, if_false]
          exact h5
        cases k with
        | none =>
          cases c <;> simp only [rowPut] at hput <;> first | cases hput | skip
          rename_i x
          have hvx : v = .bool (x.B ρ) := (Option.some.inj hc).symm
          exact step (b2i (x.B ρ)) _ (by rw [hvx]; simp only [cellV]; cases x.B ρ <;> rfl) (b2i_in _) rfl hput
        | some kd =>
          cases c <;> simp only [rowPut] at hput <;> first | cases hput | skip
          rename_i k' x
          split at hput
          · rename_i hkk
            simp only [Bool.and_eq_true] at hkk
            have hvx : v = .int k' (x.I ρ) := (Option.some.inj hc).symm
            exact step (x.I ρ) _ (by rw [hvx, kdSame_eq hkk.1]; rfl) (E.rng_ok hv x hkk.2) rfl hput
          · cases hput

theorem snd_storeE (hT : ∀ t i, (t, i) ∈ cx.ty → TIok P t i) {t : Nat} {x y : Operand} {kw : Kw} (hop : o.op = .store t x y) {id esz off : Nat} {e : E} (hx : vw.ev x = some (.one (.ep id esz e off))) {v : V} (hy : vw.ev y = some v) {i : TI} (hi : lookN t cx.ty = some i)
    {r : RowOb} (hr : vw.sw id = some r) (hrown : r.own = true) (hks : r.ks.length = esz) (hf : v.flat = true) (hn : v.cells.length = i.size) (hoff : off + i.size ≤ esz)
    (h : (decK (inB e r.l) (fun b kw => if b then
            (match rowPut kw.vk r.l e off (r.ks.drop off) v.cells with
              | some l => k { val := .one .undef, rr := [id], re := .set id { r with l := l } } kw
              | none => .stuck 57)
            else .stuck 58) kw).holds sp G ρ I) (hg : Good sp cx.sm ρ kw) : Sound P sp ρ G I base cx vw o k kw := by
  obtain ⟨kw', h1, g1, _, l1⟩ := decK_ok _ _ _ h hg
  rw [inB_B] at h1
  have ht := hT _ _ (lookN_mem hi)
  split at h1
  · rename_i hb
    simp only [Bool.and_eq_true, decide_eq_true_eq] at hb
    split at h1
    · rename_i l hl
      refine ⟨_, kw', h1, g1, l1, fun j a w _ hev hrd hwr hrr hfb K Q hK => ?_⟩
      obtain ⟨s, hs, hok⟩ := hrr.sl id (by simp) r hr
      obtain ⟨p, hp, he⟩ := ep_of hs (hev x (by simp [hop, Op.operands]) _ hx)
      have hd := V.cells_ok (hev y (by simp [hop, Op.operands]) v hy) hf
      have hown := hok.own hrown
      obtain ⟨g, rfl, hsv⟩ := own_form hown hp
      rw [hsv] at hown
      obtain ⟨w', h2, h3, h4, h5, h6⟩ := run_storeRow (P := P) g1.vk (r.ks.drop off) v.cells r.l l off 0 _ w ((⟨g, 0, none⟩ : Addr).add ((e.I ρ).toNat * esz + off)) hl hd r.ks (fun m => by rw [List.getElem?_drop]) hok.rows (by omega) hown
        (fun m => by rw [addr_add_add, add_none, hks]; congr 1; omega)
      have hsz : (a.eval y).cells.size = i.size := by
        have := denL_length hd
        rw [Array.length_toList, hn] at this
        exact this
      refine wp_skp (w' := w') ?_ (hK _ j w' rfl ⟨rfl, s, hs, ?_, RowOk.mk_own (r := { r with l := l }) (Vw.sw_some hr).2 (by rw [hok.n]; exact h6.symm) h5 hok.pos (by rw [hsv]; exact h3)⟩)
      · simp [execOp, hop, he, Instr.storeAt, Instr.sureAddr, Sem.run_bind, storeVar, ht.size, hsz, h2]
      · rw [hsv]; exact h4
    · exact h1.elim
  · exact h1.elim
end
end Go.Proofs.Ytgfghplnankgnaa


/- The run of an operation is sound: rows made, lengthened, cut; calls; all kinds together. Nothing of the program is in here. -/
set_option linter.unusedVariables false
set_option linter.unusedSimpArgs false
namespace Go.Proofs.Ytgfghplnankgnaa
open Go.RowKit

section
variable {P : Program} {sp : Spec} {ρ : Env} {G : Env → E → Prop} {I : Nat → List Dt → Prop} {base : Nat} {cx : Cx} {vw : Vw} {o : Oper} {k : Eff → Kw → Tr}

def setRowV : List Value → Nat → List Value → List Value
  | cs, _, [] => cs
  | cs, off, v :: r => setRowV (cs.set off v) (off + 1) r
theorem setRow_ok {j : J} : ∀ {vs : List C} {us : List Value} {cs : List C} {ws : List Value} {off : Nat}, denL ρ j vs = some us → denL ρ j cs = some ws → denL ρ j (setRow cs off vs) = some (setRowV ws off us)
  | [], us, cs, ws, off, h, h' => by cases h; exact h'
  | v :: vs, us, cs, ws, off, h, h' => by
    simp only [denL] at h
    cases hc : v.den ρ j with
    | none => rw [hc] at h; cases h
    | some u =>
      cases hl : denL ρ j vs with
      | none => rw [hc, hl] at h; cases h
      | some l =>
        rw [hc, hl] at h; cases h
        exact setRow_ok (vs := vs) (us := l) hl (denL_set h' off v u hc)
theorem foldl_row (off : Nat) : ∀ (l : List Value) (m : Nat) (cells : Array Value), ((l.zipIdx m).foldl (fun cs (p : Value × Nat) => cs.setIfInBounds (off + p.2) p.1) cells).toList = setRowV cells.toList (off + m) l
  | [], m, cells => rfl
  | v :: l, m, cells => by
    simp only [List.zipIdx_cons, List.foldl_cons]
    rw [foldl_row off l (m + 1)]
    simp [setRowV, Nat.add_assoc]
theorem fill_ok {j : J} {pl : Nat → Option (Nat × Nat)} : ∀ (parts : List (Nat × V)) (cs cs' : List C) (us : List (Nat × Value)) (cells : Array Value), fillC pl cs parts = some cs' → denL ρ j cs = some cells.toList → (parts.map (·.1) = us.map (·.1)) →
    (∀ (i : Nat) p u, parts[i]? = some p → us[i]? = some u → p.2.den ρ j = some u.2) → ∃ cells', Instr.fill pl cells us = some cells' ∧ denL ρ j cs' = some cells'.toList
  | [], cs, cs', us, cells, h, hd, hm, hu => by
    cases us with
    | nil => cases h; exact ⟨cells, rfl, hd⟩
    | cons _ _ => simp at hm
  | (i, v) :: parts, cs, cs', us, cells, h, hd, hm, hu => by
    cases us with
    | nil => simp at hm
    | cons u us =>
      obtain ⟨i', u⟩ := u
      simp only [List.map_cons, List.cons.injEq] at hm
      obtain ⟨rfl, hm⟩ := hm
      simp only [fillC] at h
      split at h
      · rename_i off size hp
        split at h
        · rename_i hc
          simp only [Bool.and_eq_true, decide_eq_true_eq] at hc
          obtain ⟨h1, h2, h3⟩ := hc
          have hv := hu 0 _ _ rfl rfl
          have hcells := V.cells_ok hv h1
          have hl1 := denL_length hcells
          have hl2 := denL_length hd
          rw [Nat.eq_of_beq_eq_true h2] at hl1
          simp only [Array.length_toList] at hl1 hl2
          have hrow : denL ρ j (setRow cs off v.cells) = some ((u.cells.zipIdx.foldl (fun cs (p : Value × Nat) => cs.setIfInBounds (off + p.2) p.1) cells)).toList := by
            rw [← Array.foldl_toList, Array.toList_zipIdx, foldl_row]
            exact setRow_ok hcells hd
          obtain ⟨cells', h5, h6⟩ := fill_ok parts _ cs' us _ h hrow hm (fun i p w hp' hw => hu (i + 1) p w (by simpa using hp') (by simpa using hw))
          refine ⟨cells', ?_, h6⟩
          unfold Instr.fill
          have hc1 : ¬ (u.cells.size ≠ size || decide (off + u.cells.size > cells.size)) = true := by simp; omega
          simp only [hp]
          rw [if_neg hc1]
          exact h5
        · cases h
      · cases h
theorem evP_ok {ev : Operand → Option V} {j : J} {a : Act} : ∀ {l : List (Nat × Operand)} {vs : List (Nat × V)}, evP ev l = some vs → (∀ x ∈ l.map (·.2), ∀ v, ev x = some v → v.den ρ j = some (a.eval x)) →
    vs.map (·.1) = (l.map fun p => (p.1, a.eval p.2)).map (·.1) ∧ ∀ (i : Nat) p u, vs[i]? = some p → (l.map fun p => (p.1, a.eval p.2))[i]? = some u → p.2.den ρ j = some u.2
  | [], vs, h, hev => by cases h; exact ⟨rfl, fun i p u hp => by simp at hp⟩
  | (n, x) :: l, vs, h, hev => by
    simp only [evP] at h
    cases hc : ev x with
    | none => rw [hc] at h; cases h
    | some v =>
      cases hl : evP ev l with
      | none => rw [hc, hl] at h; cases h
      | some us =>
        rw [hc, hl] at h; cases h
        obtain ⟨h1, h2⟩ := evP_ok (a := a) (j := j) hl (fun y hy => hev y (List.mem_cons_of_mem _ hy))
        refine ⟨by simp [h1], fun i p u hp hu => ?_⟩
        cases i with
        | zero =>
          simp at hp hu
          subst hp hu
          exact hev x List.mem_cons_self v hc
        | succ i => exact h2 i p u (by simpa using hp) (by simpa using hu)
theorem made_rep (z : Array Value) (n : Nat) : (madeCells z (n * z.size)).toList = (List.replicate n z.toList).flatten := by
  have hf : (madeCells z (n * z.size)).toList = (List.range (n * z.size)).map (fun i => z[i % z.size]!) := by simp [madeCells]
  rw [hf]
  clear hf
  induction n with
  | zero => simp
  | succ n ih =>
    rw [Nat.succ_mul, List.range_add, List.map_append, ih, List.replicate_succ', List.flatten_concat]
    congr 1
    apply List.ext_getElem?
    intro i
    by_cases hi : i < z.size
    · have : (n * z.size + i) % z.size = i := by rw [Nat.add_comm, Nat.add_mul_mod_self_right, Nat.mod_eq_of_lt hi]
      simp [hi, this]
    · simp [hi]
/-! ### Rows out of cells -/
theorem rowE_ok {j : J} {vk : List VK} (hv : Vk ρ vk) : ∀ {ks : List CE} {cs : List C} {r : E} {vs : List Value}, rowE vk ks cs = some r → denL ρ j cs = some vs → vs = rowV ks (r.L ρ) ∧ rowIn ks (r.L ρ) = true
  | [], [], r, vs, h, hd => by cases h; cases hd; exact ⟨rfl, rfl⟩
  | some k :: ks, .int k' x :: cs, r, vs, h, hd => by
    simp only [rowE] at h
    split at h
    · rename_i hk
      simp only [Bool.and_eq_true] at hk
      rw [Option.map_eq_some_iff] at h
      obtain ⟨t, ht, rfl⟩ := h
      simp only [denL, C.den] at hd
      cases hl : denL ρ j cs with
      | none => rw [hl] at hd; cases hd
      | some us =>
        rw [hl] at hd; cases hd
        obtain ⟨h1, h2⟩ := rowE_ok hv ht hl
        refine ⟨by simp only [E.L, rowV, cellV]; rw [h1, kdSame_eq hk.1], ?_⟩
        simp only [E.L, rowIn, inCE, Bool.and_eq_true]
        exact ⟨E.rng_ok hv x hk.2, h2⟩
    · cases h
  | none :: ks, .bool x :: cs, r, vs, h, hd => by
    simp only [rowE, Option.map_eq_some_iff] at h
    obtain ⟨t, ht, rfl⟩ := h
    simp only [denL, C.den] at hd
    cases hl : denL ρ j cs with
    | none => rw [hl] at hd; cases hd
    | some us =>
      rw [hl] at hd; cases hd
      obtain ⟨h1, h2⟩ := rowE_ok hv ht hl
      refine ⟨by simp only [E.L, rowV, cellV]; rw [h1]; congr 2; cases x.B ρ <;> rfl, ?_⟩
      simp only [E.L, rowIn, Bool.and_eq_true]
      exact ⟨b2i_in _, h2⟩
theorem rowsE_ok {j : J} {vk : List VK} (hv : Vk ρ vk) {ks : List CE} : ∀ (n : Nat) {cs : List C} {l : E} {vs : List Value}, rowsE vk ks n cs = some l → denL ρ j cs = some vs → vs = flat ks (l.R ρ) ∧ (l.R ρ).length = n ∧ ∀ r ∈ l.R ρ, rowIn ks r = true
  | 0, [], l, vs, h, hd => by cases h; cases hd; exact ⟨rfl, rfl, fun r hr => by cases hr⟩
  | 0, _ :: _, l, vs, h, hd => by simp [rowsE] at h
  | n + 1, cs, l, vs, h, hd => by
    simp only [rowsE] at h
    split at h
    · rename_i r l' hr hl
      cases h
      obtain ⟨h1, h2⟩ := rowE_ok hv hr (denL_take hd _)
      obtain ⟨h3, h4, h5⟩ := rowsE_ok hv n hl (denL_drop hd _)
      rw [consE_R, flat_cons, ← h1, ← h3]
      refine ⟨by rw [List.take_append_drop], by simp [h4], fun x hx => ?_⟩
      rcases List.mem_cons.1 hx with rfl | hx
      · exact h2
      · exact h5 x hx
    · cases h

theorem Ext.of_grown {w w' : World} (h : w.grownBy w' none) : Ext w w' := Below.grown (Ext.refl w) h (Nat.le_refl _) (fun k hk => by cases hk)
theorem mk_one {ρ : Env} {base nid : Nat} {w w' : World} {j : J} {u : SV} {r : RowOb} {v : V} (hx : Ext w w') (hr : RowOk ρ w.heap.size w' u r) (ho : r.own = true) {eff : Eff} (he : eff = { val := v, rr := eff.rr, re := .mk [r] }) : Does ρ base nid eff j w (j.putL nid [u]) w' := by
  rw [he]
  refine ⟨hx, [u], rfl, fun i u' r' h1 h2 => ?_, fun i i' u1 u2 k h1 h2 _ _ => ?_, rfl⟩
  · cases i with
    | zero => simp at h1 h2; subst h1 h2; exact ⟨hr, ho⟩
    | succ i => simp at h1
  · cases i with
    | zero =>
      cases i' with
      | zero => rfl
      | succ i' => simp at h2
    | succ i => simp at h1
theorem sl_put {ρ : Env} {j : J} {nid : Nat} {u : SV} : (V.one (.sl nid)).den ρ (j.putL nid [u]) = some u.v := by
  simp [V.den, C.den, J.putL]
theorem sl_putS {ρ : Env} {j : J} {nid : Nat} {u : SV} : (V.one (.sl nid)).den ρ (j.putS nid u) = some u.v := by
  simp [V.den, C.den, J.putS]

theorem snd_buildSlice (hT : ∀ t i, (t, i) ∈ cx.ty → TIok P t i) {t n : Nat} {ps : Array (Nat × Operand)} {kw : Kw} (hop : o.op = .buildSlice t n ps) {parts : List (Nat × V)} (hps : evP vw.ev ps.toList = some parts) {i : TI} (hi : lookN t cx.ty = some i) {et : Nat} (ha : i.sle = some et) {ie : TI} (hie : lookN et cx.ty = some ie)
    {ks : List CE} {cs : List C} (hfill : fillC (fun m => some (m * ie.size, ie.size)) ((List.replicate n ie.zero).flatten) parts = some cs) {l : E} (hl : rowsE kw.vk ks n cs = some l) (hq : n * ie.size ≤ 16777216 ∧ 0 < ie.size ∧ ks.length = ie.size)
    (h : (k { val := .one (.sl vw.nid), re := .mk [⟨ks, et, l, true, .sl⟩] } kw).holds sp G ρ I) (hg : Good sp cx.sm ρ kw) : Sound P sp ρ G I base cx vw o k kw := by
  refine ⟨_, kw, h, hg, .refl _, fun j a w hb hev hrd hwr hrr hfb K Q hK => ?_⟩
  obtain ⟨h1, h2⟩ := evP_ok (a := a) (j := j) hps (fun x hx => hev x (by
    simp only [hop, Op.operands]
    simpa using hx))
  have h3 : (ps.map fun p => (p.1, a.eval p.2)).toList = ps.toList.map fun p => (p.1, a.eval p.2) := Array.toList_map ..
  have hx : execOp a.eval o = (do let v ← Instr.buildSlice t n (ps.map fun p => (p.1, a.eval p.2)); pure (.value v)) := by simp only [execOp, hop]
  have hu := (hT _ _ (lookN_mem hi)).sle et ha
  have hte := hT _ _ (lookN_mem hie)
  have hsz := hte.size
  obtain ⟨inf, z, hinf, hisz, _, hz, hzl, hzd⟩ := hte.info
  have hzs : z.cells.size = ie.size := by simpa using hzl
  -- the noughts
  have zer : denL ρ j ((List.replicate n ie.zero).flatten) = some (madeCells z.cells (n * ie.size)).toList := by
    rw [← hzs, made_rep]
    have : ∀ n, denL ρ j ((List.replicate n ie.zero).flatten) = some ((List.replicate n z.cells.toList).flatten) := by
      intro n
      induction n with
      | zero => rfl
      | succ n ih =>
        simp only [List.replicate_succ, List.flatten_cons]
        exact denL_append (hzd ρ j) ih
    exact this n
  obtain ⟨cells, h4, h5⟩ := fill_ok (j := j) parts _ cs _ (madeCells z.cells (n * ie.size)) hfill zer h1 h2
  obtain ⟨h6, h7, h8⟩ := rowsE_ok hg.vk n hl h5
  have hmax : n ≤ maxLen := by
    have : n * 1 ≤ n * ie.size := Nat.mul_le_mul_left n hq.2.1
    simp only [maxLen]; omega
  have hcs : cells.size = n * ks.length := by
    have := congrArg List.length h6
    rw [flat_length h8, h7] at this
    simpa using this
  have own := World.ownsRow_lit (base := w.heap.size) (e := et) (size := ks.length) w cells n (Nat.le_refl _) hmax hcs
  rw [h6] at own
  refine wp_val (w' := w.alloc (.cells cells et)) (v := (⟨some ⟨w.heap.size, 0, none⟩, n, n⟩ : SV).v) ?_ (hK _ (j.putL vw.nid [⟨some ⟨w.heap.size, 0, none⟩, n, n⟩]) _ sl_put (mk_one (Ext.of_grown (World.grownBy_alloc w _ none)) (RowOk.mk_own rfl h7.symm ⟨h8, by rw [h7]; exact hmax⟩ (by simp only; omega) own) rfl rfl))
  rw [hx]
  have hbig : ¬ (16777216 < n * ie.size) := by omega
  by_cases hn0 : n * ie.size = 0
  · have hn : n = 0 := by
      rcases Nat.mul_eq_zero.1 hn0 with h | h
      · exact h
      · omega
    subst hn
    have h4' : Instr.fill (fun m => some (m * ie.size, ie.size)) #[] (ps.toList.map fun p => (p.1, a.eval p.2)) = some cells := by
      rw [← h4]; congr 1
      simp [madeCells]
    simp [Instr.buildSlice, Sem.run_bind, run_underlying hu, hsz, h3, Array.range_zero', h4', newRow, SV.v]
  · simp only [madeCells] at h4
    simp [Instr.buildSlice, Sem.run_bind, run_underlying hu, hsz, h3, hbig, hn0, zeroValue, typeInfo, hinf, hz, h4, newRow, SV.v]

theorem snd_makeSlice (hT : ∀ t i, (t, i) ∈ cx.ty → TIok P t i) {t : Nat} {x y : Operand} {kw : Kw} (hop : o.op = .makeSlice t x y) {k1 k2 : IntKind} {e e' : E} (hx : vw.ev x = some (.one (.int k1 e))) (hy : vw.ev y = some (.one (.int k2 e'))) {i : TI} (hi : lookN t cx.ty = some i) {et : Nat} (ha : i.sle = some et) {ie : TI} (hie : lookN et cx.ty = some ie)
    {ks : List CE} {r : E} (hr : rowE kw.vk ks ie.zero = some r) (hq : e.same e' = true ∧ 0 < ie.size ∧ ks.length = ie.size ∧ ie.bytes ≤ 65536)
    (h : (decK (mkLt e (.lit 0)) (fun b kw => if b then .panic else decK (mkLt e (.lit bigB)) (fun b kw => if b then
                  k { val := .one (.sl vw.nid), re := .mk [⟨ks, et, .lrep e r, true, .sl⟩] } kw else .panic) kw) kw).holds sp G ρ I) (hg : Good sp cx.sm ρ kw) : Sound P sp ρ G I base cx vw o k kw := by
  have hv0 := hg.vk
  obtain ⟨kw1, h1, g1, _, l1⟩ := decK_ok _ _ _ h hg
  rw [mkLt_B] at h1
  split at h1
  · exact h1.elim
  rename_i hneg
  obtain ⟨kw2, h2, g2, _, l2⟩ := decK_ok _ _ _ h1 g1
  rw [mkLt_B] at h2
  split at h2
  · rename_i hbig
    have hneg' : 0 ≤ e.I ρ := by
      have h3 : ¬ e.I ρ < 0 := of_decide_eq_false (Bool.eq_false_iff.2 hneg)
      omega
    have hbig' : e.I ρ < 1073741824 := of_decide_eq_true hbig
    have hes := E.same_eq hq.1
    rw [← hes] at hy
    refine ⟨_, kw2, h2, g2, l2.trans l1, fun j a w hb hev hrd hwr hrr hfb K Q hK => ?_⟩
    have hdx := one_int (hev x (by simp [hop, Op.operands]) _ hx)
    have hdy := one_int (hev y (by simp [hop, Op.operands]) _ hy)
    have hu := (hT _ _ (lookN_mem hi)).sle et ha
    have hte := hT _ _ (lookN_mem hie)
    obtain ⟨inf, z, hinf, hisz, hbytes, hz, hzl, hzd⟩ := hte.info
    obtain ⟨h6, h7⟩ := rowE_ok hv0 hr (hzd ρ j)
    have hN : ((e.I ρ).toNat : Int) = e.I ρ := Int.toNat_of_nonneg hneg'
    have hlt : (e.I ρ).toNat < 1073741824 := by omega
    have hmax : (e.I ρ).toNat ≤ maxLen := by simp only [maxLen]; omega
    have hbb : inf.bytes * (e.I ρ).toNat ≤ 281474976710656 := by
      have : inf.bytes * (e.I ρ).toNat ≤ 65536 * 1073741824 := Nat.mul_le_mul (by omega) (by omega)
      omega
    obtain ⟨w', h3, h4, h5⟩ := run_make_full (P := P) w w.heap.size t et inf z ie.size hu hinf hz hisz k1 k2 (e.I ρ).toNat hbb hmax (Nat.le_refl _)
    have hzs : z.cells.size = ie.size := by simpa using hzl
    have hflat : (madeCells z.cells ((e.I ρ).toNat * ie.size)).toList = flat ks ((E.lrep e r).R ρ) := by
      rw [← hzs, made_rep, h6]
      simp [E.R, flat, List.flatMap_replicate]
    rw [hflat, ← hq.2.2.1] at h4
    have hlen : ((E.lrep e r).R ρ).length = (e.I ρ).toNat := by simp [E.R]
    refine wp_val (w' := w') (v := (⟨some ⟨w.heap.size, 0, none⟩, (e.I ρ).toNat, (e.I ρ).toNat⟩ : SV).v) ?_ (hK _ (j.putL vw.nid [⟨some ⟨w.heap.size, 0, none⟩, (e.I ρ).toNat, (e.I ρ).toNat⟩]) _ sl_put (mk_one (Ext.of_grown h5) (RowOk.mk_own rfl hlen.symm ⟨fun x hx => ?_, by rw [hlen]; exact hmax⟩ (by simp only; omega) h4) rfl rfl))
    · rw [hN] at h3
      simp [execOp, hop, hdx, hdy, h3, SV.v, Sem.run_bind]
    · simp only [E.R, List.mem_replicate] at hx
      rw [hx.2]; exact h7
  · exact h2.elim
end
end Go.Proofs.Ytgfghplnankgnaa


/- The run of an operation is sound: rows lengthened, cut, counted; calls. Nothing of the program is in here. -/
set_option linter.unusedVariables false
set_option linter.unusedSimpArgs false
namespace Go.Proofs.Ytgfghplnankgnaa
open Go.RowKit

section
variable {P : Program} {sp : Spec} {ρ : Env} {G : Env → E → Prop} {I : Nat → List Dt → Prop} {base : Nat} {cx : Cx} {vw : Vw} {o : Oper} {k : Eff → Kw → Tr}

theorem sl_of {j : J} {id : Nat} {s : SV} {v : Value} (hs : j.s id = some s) (h : (V.one (.sl id)).den ρ j = some v) : v = s.v := by
  simp only [V.den, C.den, hs, Option.map_some, Option.some.injEq] at h
  exact h.symm
theorem nsl_of {j : J} {v : Value} (h : (V.one .nsl).den ρ j = some v) : v = .slice none 0 0 := (Option.some.inj h).symm

/-! ### Cut -/
theorem run_slice_ok {w : World} {t et esz : Nat} (hu : P.underlying t = some (.slice et)) (hs : (sizeOf et).run P w = .ok esz w) (s : SV) (l h : Nat) (low high : Option Value) (hl : (low = none ∧ l = 0) ∨ ∃ kd : IntKind, low = some (.int kd (l : Int))) (hh : (high = none ∧ h = s.n) ∨ ∃ kd : IntKind, high = some (.int kd (h : Int))) (h1 : l ≤ h) (h2 : h ≤ s.n) (h3 : s.n ≤ s.c) :
    (Instr.sliceAt t s.v low high none).run P w = .ok (⟨if s.c = l then s.a else s.a.map (·.add (l * esz)), h - l, s.c - l⟩ : SV).v w := by
  have sb : ∀ (kd : IntKind) (m y : Nat) code, m ≤ y → (Instr.sliceBound (.int kd (m : Int)) y code).run P w = .ok m w := fun kd m y code hmy => by
    have h5 : (m : Int) ≤ (y : Int) := by omega
    simp [Instr.sliceBound, asIntOf, Sem.run_bind, hmy]
  have b1 : (Instr.sliceBounds true s.n s.c low high none).run P w = .ok (l, h, s.c) w := by
    rcases hl with ⟨rfl, rfl⟩ | ⟨kd, rfl⟩ <;> rcases hh with ⟨rfl, rfl⟩ | ⟨kd', rfl⟩
    · simp [Instr.sliceBounds, Sem.run_bind]
    · simp [Instr.sliceBounds, Sem.run_bind, sb kd' h s.c _ (by omega)]
    · simp [Instr.sliceBounds, Sem.run_bind, sb kd l s.n _ (by omega)]
    · simp [Instr.sliceBounds, Sem.run_bind, sb kd l h _ (by omega), sb kd' h s.c _ (by omega)]
  simp [Instr.sliceAt, Instr.slice, SV.v, run_underlying hu, Sem.run_bind, b1, hs]
theorem cut_block {s : SV} {l h esz : Nat} : ∀ k, (⟨if s.c = l then s.a else s.a.map (·.add (l * esz)), h - l, s.c - l⟩ : SV).blk false = some k → s.blk false = some k := by
  intro k hk
  have hc : s.c ≠ 0 := fun hc => by
    unfold SV.blk at hk
    simp [hc] at hk
  refine blk_cells hc ?_
  have hk := blk_some hk
  obtain ⟨a, n, c⟩ := s
  simp only [SV.v] at hk ⊢
  split at hk
  · cases a <;> simp_all [Value.ownBlock]
  · cases a with
    | none => simp [Value.ownBlock] at hk
    | some a =>
      simp only [Option.map_some, Value.ownBlock, Option.some.injEq] at hk ⊢
      rw [← hk]
      unfold Addr.add
      split <;> rfl
theorem cut_row {w : World} {s : SV} {r q : RowOb} {l h : Nat} (hok : SlOk ρ base w s r) (hq : q.ks = r.ks ∧ q.own = false) (hL : q.l.R ρ = ((r.l.R ρ).take h).drop l) (h1 : l ≤ h) (h2 : h ≤ s.n) :
    SlOk ρ base w ⟨if s.c = l then s.a else s.a.map (·.add (l * r.ks.length)), h - l, s.c - l⟩ q := by
  obtain ⟨r1, r2, r3, r4, r5⟩ := hok.rd
  have hn := hok.n
  have hlen : (q.l.R ρ).length = h - l := by rw [hL, List.length_drop, List.length_take]; omega
  have hrows : ∀ x ∈ q.l.R ρ, rowIn r.ks x = true := fun x hx => hok.rows.row x (by rw [hL] at hx; exact List.mem_of_mem_take (List.mem_of_mem_drop hx))
  refine ⟨hlen.symm, ⟨by rw [hq.1]; exact hrows, by rw [hlen]; omega⟩, by rw [hq.1]; exact hok.pos, fun k hk => ?_, fun ho => (by rw [hq.2] at ho; cases ho), ?_⟩
  · rw [hq.2] at hk
    exact hok.lt k (blk_mono (cut_block k hk))
  · rw [hq.1]
    have hfl : flat r.ks (q.l.R ρ) = ((flat r.ks (r.l.R ρ)).take (h * r.ks.length)).drop (l * r.ks.length) := by
      rw [flat_take h hok.rows.row, flat_drop l (fun x hx => hok.rows.row x (List.mem_of_mem_take hx)), hL]
    refine ⟨by rw [flat_length hrows, hlen], by simp only; omega, by simp only; omega, fun ha => ?_, fun a ha i u hi => ?_⟩
    · simp only at ha ⊢
      split at ha
      · have := r4 ha; omega
      · rw [Option.map_eq_none_iff] at ha
        have := r4 ha; omega
    · simp only at ha
      have hlt : i < (flat r.ks (q.l.R ρ)).length := (List.getElem?_eq_some_iff.1 hi).1
      rw [flat_length hrows, hlen] at hlt
      split at ha
      · rename_i hc
        have : h - l = 0 := by omega
        rw [this] at hlt
        omega
      · rw [Option.map_eq_some_iff] at ha
        obtain ⟨a0, ha0, rfl⟩ := ha
        rw [addr_add_add]
        refine r5 a0 ha0 _ u ?_
        rw [hfl, List.getElem?_drop, List.getElem?_take] at hi
        split at hi
        · exact hi
        · cases hi
theorem SlOk.shut {w : World} {s : SV} {r : RowOb} (h : SlOk ρ base w s r) : SlOk ρ base w s { r with own := false } := ⟨h.n, h.rows, h.pos, fun k hk => h.lt k (blk_mono hk), fun ho => (by cases ho), h.rd⟩

/-- A cut between two numbers. -/
theorem snd_cut (hT : ∀ t i, (t, i) ∈ cx.ty → TIok P t i) {t : Nat} {x : Operand} {lo hi' : Option Operand} {kw : Kw} (hop : o.op = .slice t x lo hi' none) {id : Nat} (hx : vw.ev x = some (.one (.sl id))) {i : TI} (hi : lookN t cx.ty = some i) {et : Nat} (ha : i.sle = some et) {ie : TI} (hie : lookN et cx.ty = some ie)
    {r : RowOb} (hr : vw.sw id = some r) (hks : r.ks.length = ie.size) {L H : Nat}
    (hlo : (lo = none ∧ L = 0) ∨ ∃ y kd e, lo = some y ∧ vw.ev y = some (.one (.int kd e)) ∧ e.I ρ = (L : Int)) (hhi : (hi' = none ∧ H = (r.l.R ρ).length) ∨ ∃ y kd e, hi' = some y ∧ vw.ev y = some (.one (.int kd e)) ∧ e.I ρ = (H : Int))
    {l' : E} (hl' : l'.R ρ = ((r.l.R ρ).take H).drop L) (hLH : L ≤ H ∧ H ≤ (r.l.R ρ).length)
    (h : (k { val := .one (.sl vw.nid), rr := [id], re := .view id { r with own := false } ⟨r.ks, et, l', false, .sl⟩ } kw).holds sp G ρ I) (hg : Good sp cx.sm ρ kw) : Sound P sp ρ G I base cx vw o k kw := by
  refine ⟨_, kw, h, hg, .refl _, fun j a w hbw hev hrd hwr hrr hfb K Q hK => ?_⟩
  obtain ⟨s, hs, hok⟩ := hrr.sl id (by simp) r hr
  have hd := sl_of hs (hev x (by simp [hop, Op.operands]) _ hx)
  have hu := (hT _ _ (lookN_mem hi)).sle et ha
  have hsz := (hT _ _ (lookN_mem hie)).size w
  rw [← hks] at hsz
  have hn := hok.n
  have hl1 : (lo.map a.eval = none ∧ L = 0) ∨ ∃ kd : IntKind, lo.map a.eval = some (.int kd (L : Int)) := by
    rcases hlo with ⟨rfl, h0⟩ | ⟨y, kd, e, rfl, hy, he⟩
    · exact .inl ⟨rfl, h0⟩
    · exact .inr ⟨kd, by rw [Option.map_some, one_int (hev y (by simp [hop, Op.operands]) _ hy), he]⟩
  have hh1 : (hi'.map a.eval = none ∧ H = s.n) ∨ ∃ kd : IntKind, hi'.map a.eval = some (.int kd (H : Int)) := by
    rcases hhi with ⟨rfl, h0⟩ | ⟨y, kd, e, rfl, hy, he⟩
    · exact .inl ⟨rfl, by rw [h0, hn]⟩
    · exact .inr ⟨kd, by rw [Option.map_some, one_int (hev y (by simp [hop, Op.operands]) _ hy), he]⟩
  have hrun := run_slice_ok (P := P) hu hsz s L H _ _ hl1 hh1 hLH.1 (by omega) hok.rd.2.1
  refine wp_val (w' := w) (v := (⟨if s.c = L then s.a else s.a.map (·.add (L * r.ks.length)), H - L, s.c - L⟩ : SV).v) ?_ (hK _ (j.putS vw.nid ⟨if s.c = L then s.a else s.a.map (·.add (L * r.ks.length)), H - L, s.c - L⟩) w sl_putS ⟨rfl, s, _, hs, hok.shut.row (Vw.sw_some hr).2, (cut_row (q := ⟨r.ks, et, l', false, .sl⟩) hok ⟨rfl, rfl⟩ hl' hLH.1 (by omega)).row rfl, cut_block, rfl⟩)
  simp only [execOp, hop, hd, Option.map_none, Sem.run_bind, hrun, Result.andThen_ok, Sem.run_pure]
theorem snd_whole (hT : ∀ t i, (t, i) ∈ cx.ty → TIok P t i) {t : Nat} {x : Operand} {kw : Kw} (hop : o.op = .slice t x none none none) {id : Nat} (hx : vw.ev x = some (.one (.sl id))) {i : TI} (hi : lookN t cx.ty = some i) {et : Nat} (ha : i.sle = some et) {ie : TI} (hie : lookN et cx.ty = some ie)
    (h : (k { val := .one (.sl id) } kw).holds sp G ρ I) (hg : Good sp cx.sm ρ kw) : Sound P sp ρ G I base cx vw o k kw := by
  refine ⟨_, kw, h, hg, .refl _, OpOk.pure fun j a w _ hev _ _ _ => ?_⟩
  have hd := hev x (by simp [hop, Op.operands]) _ hx
  refine ⟨_, hd, ?_⟩
  simp only [V.den, C.den, Option.map_eq_some_iff] at hd
  obtain ⟨s, _, hs⟩ := hd
  have hu := (hT _ _ (lookN_mem hi)).sle et ha
  have hsz := (hT _ _ (lookN_mem hie)).size w
  obtain ⟨sa, sn, sc⟩ := s
  have e0 : ∀ a : Addr, a.add 0 = a := fun a => by simp [Addr.add]
  have e : (if sc = 0 then sa else sa.map fun x => x.add 0) = sa := by
    split
    · rfl
    · cases sa <;> simp [e0]
  simp [execOp, hop, ← hs, SV.v, Instr.sliceAt, Instr.slice, run_underlying hu, Sem.run_bind, Instr.sliceBounds, hsz, e, e0]

/-! ### Counted -/
theorem lenE_ok {kw : Kw} {l : E} (hl : (l.R ρ).length ≤ maxLen) : (lenE kw.vk l).I ρ = ((l.R ρ).length : Int) := by
  have h := mkLen_I ρ l
  unfold lenE
  split
  · rename_i z hz; rw [hz] at h; exact h
  · rename_i e hne
    split
    · exact h
    · show IntKind.i64.wrap _ = _
      rw [h]
      refine wrap_in ?_
      rw [inK_iff]
      simp only [maxLen] at hl
      simp only [IntKind.min, IntKind.max, IntKind.signed, IntKind.bits]
      simp
      omega
theorem snd_len (hT : ∀ t i, (t, i) ∈ cx.ty → TIok P t i) {c : Call} {kw : Kw} (hop : o.op = .call c) (hc : c.callee = .builtin .len) {id t : Nat} (hl : evL vw.ev c.args.toList = some [.one (.sl id)]) (hty : c.argTypes.toList = [t]) {i : TI} (hi : lookN t cx.ty = some i) (hsl : i.sle.isSome = true) {r : RowOb} (hr : vw.sw id = some r)
    (h : (k { val := .one (.int .i64 (lenE kw.vk r.l)), rr := [id] } kw).holds sp G ρ I) (hg : Good sp cx.sm ρ kw) : Sound P sp ρ G I base cx vw o k kw := by
  refine ⟨_, kw, h, hg, .refl _, OpOk.pure fun j a w _ hev _ hrr _ => ?_⟩
  obtain ⟨s, hs, hok⟩ := hrr.sl id (by simp) r hr
  obtain ⟨h1, h2⟩ := evL_ok (j := j) (a := a) hl (fun x hx => hev x (by simp [hop, Op.operands, Call.operands]; exact .inr (by simpa using hx)))
  have h3 : c.args.map a.eval = #[s.v] := by
    have : c.args.toList.map a.eval = [s.v] := by
      match hm : c.args.toList.map a.eval, h2 with
      | [u], _ => rw [hm] at h1; rw [sl_of hs (h1 0 _ u rfl rfl)]
    rw [← Array.toArray_toList (xs := c.args.map a.eval), Array.toList_map, this]
  obtain ⟨et, het⟩ := Option.isSome_iff_exists.1 hsl
  have hu := (hT _ _ (lookN_mem hi)).sle et het
  have hat : c.argTypes = #[t] := by rw [← Array.toArray_toList (xs := c.argTypes), hty]
  have hle : (r.l.R ρ).length ≤ maxLen := hok.rows.len
  refine ⟨.int .i64 (s.n : Int), by rw [hok.n]; simp [V.den, C.den, lenE_ok hle], ?_⟩
  simp [execOp, hop, resolve, hc, h3, hat, Sem.run_bind, invoke, builtin, Builtin.len_, run_underlying hu, SV.v, goInt]
theorem snd_len0 (hT : ∀ t i, (t, i) ∈ cx.ty → TIok P t i) {c : Call} {kw : Kw} (hop : o.op = .call c) (hc : c.callee = .builtin .len) {t : Nat} (hl : evL vw.ev c.args.toList = some [.one .nsl]) (hty : c.argTypes.toList = [t]) {i : TI} (hi : lookN t cx.ty = some i) (hsl : i.sle.isSome = true)
    (h : (k { val := .one (.int .i64 (.lit 0)) } kw).holds sp G ρ I) (hg : Good sp cx.sm ρ kw) : Sound P sp ρ G I base cx vw o k kw := by
  refine ⟨_, kw, h, hg, .refl _, OpOk.pure fun j a w _ hev _ hrr _ => ?_⟩
  obtain ⟨h1, h2⟩ := evL_ok (j := j) (a := a) hl (fun x hx => hev x (by simp [hop, Op.operands, Call.operands]; exact .inr (by simpa using hx)))
  have h3 : c.args.map a.eval = #[.slice none 0 0] := by
    have : c.args.toList.map a.eval = [.slice none 0 0] := by
      match hm : c.args.toList.map a.eval, h2 with
      | [u], _ => rw [hm] at h1; rw [nsl_of (h1 0 _ u rfl rfl)]
    rw [← Array.toArray_toList (xs := c.args.map a.eval), Array.toList_map, this]
  obtain ⟨et, het⟩ := Option.isSome_iff_exists.1 hsl
  have hu := (hT _ _ (lookN_mem hi)).sle et het
  have hat : c.argTypes = #[t] := by rw [← Array.toArray_toList (xs := c.argTypes), hty]
  refine ⟨.int .i64 0, rfl, ?_⟩
  simp [execOp, hop, resolve, hc, h3, hat, Sem.run_bind, invoke, builtin, Builtin.len_, run_underlying hu, goInt]

/-! ### Lengthened -/
theorem own_sv {w : World} {base ty esz n : Nat} {v : Value} {xs : List Value} (h : w.ownsRow base ty esz v n xs) : ∃ s : SV, v = s.v ∧ s.n = n := by
  rcases h.2 with ⟨rfl, rfl⟩ | ⟨g, cap, cur, rfl, _⟩
  · exact ⟨⟨none, 0, 0⟩, rfl, rfl⟩
  · exact ⟨⟨some ⟨g, 0, none⟩, n, cap⟩, rfl, rfl⟩
theorem run_append_rows {w : World} {base t ty e : Nat} {inf : TypeInfo} {z : Value} (ht : P.underlying t = some (.slice e)) (hi : P.info? e = some inf) (hz : inf.zero = some z) (hzs : z.cells.size = inf.size) (hsz : 0 < inf.size) {v : Value} {n : Nat} {xs : List Value} (hown : w.ownsRow base e inf.size v n xs)
    {x : SV} {news : List Value} (hrd : RdRow w inf.size x news) (h1 : ∀ u ∈ news, u.oneCell' = true) (h63 : n + x.n ≤ maxLen) (hbytes : (n + x.n) * inf.bytes ≤ 140737488355328) (hbase : base ≤ w.heap.size) :
    ∃ s' w', (Builtin.append_ #[t, t] ty #[v, x.v]).run P w = .ok (SV.v s') w' ∧ s'.n = n + x.n ∧ w'.ownsRow base e inf.size s'.v (n + x.n) (xs ++ news) ∧ w.grownBy w' v.ownBlock ∧ (s'.v.ownBlock = v.ownBlock ∨ s'.v.ownBlock = some w.heap.size) := by
  obtain ⟨xa, xn, xc⟩ := x
  cases xa with
  | none =>
    obtain ⟨h2, h3⟩ := hrd.2.2.2.1 rfl
    simp only at h2 h3
    subst h2 h3
    have hnil : news = [] := by
      have := hrd.1
      simp only [Nat.zero_mul] at this
      exact List.eq_nil_of_length_eq_zero this
    subst hnil
    obtain ⟨s, rfl, hn⟩ := own_sv hown
    exact ⟨s, w, run_append_owned_none w base t ty e inf inf.size ht hi _ n xs hown, hn, by simpa using hown, ⟨rfl, rfl, rfl, Nat.le_refl _, fun _ _ _ => rfl⟩, .inl rfl⟩
  | some a =>
    obtain ⟨v', w', hr, h2, h3, _, h5⟩ := run_append_own_at (P := P) w base t ty e inf z inf.size inf.bytes ht hi hz rfl rfl hzs hsz v n xs hown a xn xc news hrd.1 (fun j u hj => hrd.2.2.2.2 a rfl j u hj) h1 h63 hbytes hbase
    obtain ⟨s, rfl, hn⟩ := own_sv h2
    exact ⟨s, w', hr, hn, h2, h3, h5⟩
theorem args2 {c : Call} {a : Act} {j : J} {v1 v2 : V} (hl : evL vw.ev c.args.toList = some [v1, v2]) (hev : ∀ x ∈ c.args.toList, ∀ v, vw.ev x = some v → v.den ρ j = some (a.eval x)) : ∃ u1 u2, c.args.map a.eval = #[u1, u2] ∧ v1.den ρ j = some u1 ∧ v2.den ρ j = some u2 := by
  obtain ⟨h1, h2⟩ := evL_ok (j := j) (a := a) hl hev
  match hm : c.args.toList.map a.eval, h2 with
  | [u1, u2], _ =>
    rw [hm] at h1
    exact ⟨u1, u2, by rw [← Array.toArray_toList (xs := c.args.map a.eval), Array.toList_map, hm], h1 0 _ u1 rfl rfl, h1 1 _ u2 rfl rfl⟩
theorem catE_R (ρ : Env) (a b : E) : (catE a b).R ρ = a.R ρ ++ b.R ρ := by
  unfold catE
  split
  · simp [E.R]
  · split <;> simp [E.R]

theorem snd_append0 (hT : ∀ t i, (t, i) ∈ cx.ty → TIok P t i) {c : Call} {kw : Kw} (hop : o.op = .call c) (hc : c.callee = .builtin .append) {id t : Nat} (hl : evL vw.ev c.args.toList = some [.one .nsl, .one (.sl id)]) (hty : c.argTypes.toList = [t, t]) {i : TI} (hi : lookN t cx.ty = some i) {et : Nat} (ha : i.sle = some et) {ie : TI} (hie : lookN et cx.ty = some ie)
    {r : RowOb} (hr : vw.sw id = some r) (hq : r.ty = et ∧ r.ks.length = ie.size ∧ 0 < ie.size ∧ ie.bytes ≤ 65536)
    (h : (decK (mkLt (mkLen r.l) (.lit bigB)) (fun b kw => if b then k { val := .one (.sl vw.nid), rr := [id], re := .mk [⟨r.ks, et, r.l, true, .sl⟩] } kw else .panic) kw).holds sp G ρ I) (hg : Good sp cx.sm ρ kw) : Sound P sp ρ G I base cx vw o k kw := by
  obtain ⟨kw1, h1, g1, _, l1⟩ := decK_ok _ _ _ h hg
  rw [mkLt_B, mkLen_I] at h1
  split at h1
  · rename_i hbig
    have hbig' : ((r.l.R ρ).length : Int) < 1073741824 := of_decide_eq_true hbig
    refine ⟨_, kw1, h1, g1, l1, fun j a w hb hev hrd hwr hrr hfb K Q hK => ?_⟩
    obtain ⟨s, hs, hok⟩ := hrr.sl id (by simp) r hr
    obtain ⟨u1, u2, hargs, hd1, hd2⟩ := args2 (j := j) (a := a) hl (fun x hx => hev x (by simp [hop, Op.operands, Call.operands]; exact .inr (by simpa using hx)))
    have e1 := nsl_of hd1
    have e2 := sl_of hs hd2
    subst e1 e2
    have hu := (hT _ _ (lookN_mem hi)).sle et ha
    obtain ⟨inf, z, hinf, hisz, hbytes, hz, hzl, hzd⟩ := (hT _ _ (lookN_mem hie)).info
    have hat : c.argTypes = #[t, t] := by rw [← Array.toArray_toList (xs := c.argTypes), hty]
    have hn := hok.n
    have hrd' := hok.rd
    rw [hq.2.1, ← hisz] at hrd'
    obtain ⟨s', w', h2, h3, h4, h5, h6⟩ := run_append_rows (P := P) (base := w.heap.size) (ty := o.type) hu hinf hz (by rw [hisz]; simpa using hzl) (by omega) (World.ownsRow_nil w w.heap.size et inf.size) hrd' flat_one (by simp only [maxLen]; omega)
      (by
        have : (0 + s.n) * inf.bytes ≤ 1073741824 * 65536 := Nat.mul_le_mul (by omega) (by omega)
        omega) (Nat.le_refl _)
    simp only [Nat.zero_add, List.nil_append] at h3 h4
    rw [hisz, ← hq.2.1, ← h3] at h4
    refine wp_val (w' := w') (v := s'.v) ?_ (hK _ (j.putL vw.nid [s']) _ sl_put (mk_one (Ext.of_grown h5) (RowOk.mk_own (r := ⟨r.ks, et, r.l, true, .sl⟩) rfl (by rw [h3]; exact hn) hok.rows hok.pos h4) rfl rfl))
    simp only [execOp, hop, resolve, hc, hargs, hat, Sem.run_bind, Sem.run_pure, Result.andThen_ok, invoke, builtin, h2]
  · exact h1.elim
theorem snd_append (hT : ∀ t i, (t, i) ∈ cx.ty → TIok P t i) {c : Call} {kw : Kw} (hop : o.op = .call c) (hc : c.callee = .builtin .append) {old id t : Nat} (hl : evL vw.ev c.args.toList = some [.one (.sl old), .one (.sl id)]) (hty : c.argTypes.toList = [t, t]) {i : TI} (hi : lookN t cx.ty = some i) {et : Nat} (ha : i.sle = some et) {ie : TI} (hie : lookN et cx.ty = some ie)
    {r q : RowOb} (hr : vw.sw id = some r) (hrq : vw.sw old = some q) (hq : r.ty = et ∧ r.ks.length = ie.size ∧ 0 < ie.size ∧ ie.bytes ≤ 65536) (hq2 : q.own = true ∧ q.ty = et ∧ q.ks = r.ks)
    (h : (decK (mkAnd (mkLt (mkLen q.l) (.lit bigB)) (mkLt (mkLen r.l) (.lit bigB))) (fun b kw => if b then k { val := .one (.sl vw.nid), rr := [old, id], re := .app old ⟨r.ks, et, catE q.l r.l, true, .sl⟩ } kw else .panic) kw).holds sp G ρ I) (hg : Good sp cx.sm ρ kw) : Sound P sp ρ G I base cx vw o k kw := by
  obtain ⟨kw1, h1, g1, _, l1⟩ := decK_ok _ _ _ h hg
  rw [mkAnd_B, mkLt_B, mkLt_B, mkLen_I, mkLen_I] at h1
  split at h1
  · rename_i hbig
    rw [Bool.and_eq_true] at hbig
    have hb1 : ((q.l.R ρ).length : Int) < 1073741824 := of_decide_eq_true hbig.1
    have hb2 : ((r.l.R ρ).length : Int) < 1073741824 := of_decide_eq_true hbig.2
    refine ⟨_, kw1, h1, g1, l1, fun j a w hb hev hrd hwr hrr hfb K Q hK => ?_⟩
    obtain ⟨s, hs, hok⟩ := hrr.sl id (by simp) r hr
    obtain ⟨p, hp, hop'⟩ := hrr.sl old (by simp) q hrq
    obtain ⟨u1, u2, hargs, hd1, hd2⟩ := args2 (j := j) (a := a) hl (fun x hx => hev x (by simp [hop, Op.operands, Call.operands]; exact .inr (by simpa using hx)))
    have e1 := sl_of hp hd1
    have e2 := sl_of hs hd2
    subst e1 e2
    have hu := (hT _ _ (lookN_mem hi)).sle et ha
    obtain ⟨inf, z, hinf, hisz, hbytes, hz, hzl, hzd⟩ := (hT _ _ (lookN_mem hie)).info
    have hat : c.argTypes = #[t, t] := by rw [← Array.toArray_toList (xs := c.argTypes), hty]
    have hn := hok.n
    have hpn := hop'.n
    have hown := hop'.own hq2.1
    rw [hq2.2.1, hq2.2.2, hq.2.1, ← hisz] at hown
    have hrd' := hok.rd
    rw [hq.2.1, ← hisz] at hrd'
    obtain ⟨s', w', h2, h3, h4, h5, h6⟩ := run_append_rows (P := P) (base := base) (ty := o.type) hu hinf hz (by rw [hisz]; simpa using hzl) (by omega) hown hrd' flat_one (by simp only [maxLen]; omega)
      (by
        have : (p.n + s.n) * inf.bytes ≤ 2147483648 * 65536 := Nat.mul_le_mul (by omega) (by omega)
        omega) hb
    rw [← flat_append, hisz, ← hq.2.1, ← h3] at h4
    have hR : (catE q.l r.l).R ρ = q.l.R ρ ++ r.l.R ρ := catE_R ρ _ _
    refine wp_val (w' := w') (v := s'.v) ?_ (hK _ (j.putS vw.nid s') _ sl_putS ⟨p, s', hp, h5, RowOk.mk_own (r := ⟨r.ks, et, catE q.l r.l, true, .sl⟩) rfl ?_ ⟨fun x hx => ?_, ?_⟩ hok.pos (by simp only [hR]; exact h4), h6, rfl⟩)
    · simp only [execOp, hop, resolve, hc, hargs, hat, Sem.run_bind, Sem.run_pure, Result.andThen_ok, invoke, builtin, h2]
    · simp only [hR, List.length_append]; omega
    · simp only [hR, List.mem_append] at hx
      rcases hx with hx | hx
      · have := hop'.rows.row x hx; rw [hq2.2.2] at this; exact this
      · exact hok.rows.row x hx
    · simp only [hR, List.length_append, maxLen]; omega
  · exact h1.elim
end
end Go.Proofs.Ytgfghplnankgnaa


/- Maps in a symbolic run: what the operations on them do. Nothing of the program is in here. -/
set_option linter.unusedVariables false
set_option linter.unusedSimpArgs false
namespace Go.Proofs.Ytgfghplnankgnaa
open Go.RowKit
open Go.ChangeMaps (setBlock)

section
variable {P : Program} {sp : Spec} {ρ : Env} {G : Env → E → Prop} {I : Nat → List Dt → Prop} {base : Nat} {cx : Cx} {vw : Vw} {o : Oper} {k : Eff → Kw → Tr}

theorem run_getMap {w : World} {r c : Nat} {es : Array MapEntry} (h : w.heap[r]? = some (.map es c)) : (getObj r).run P w = .ok (.map es c) w := by simp [getObj, Sem.run, h]
theorem run_setMap {w : World} {r c : Nat} {es : Array MapEntry} (h : w.heap[r]? = some (.map es c)) (ob : Obj) : (setObj r ob).run P w = .ok () (setBlock w r ob) := by simp [setObj, Sem.run, h, setBlock]
theorem grown_setBlock (w : World) (r : Nat) (ob : Obj) : w.grownBy (setBlock w r ob) (some r) := by
  refine ⟨rfl, rfl, rfl, by simp [setBlock], fun k hk hne => ?_⟩
  have : r ≠ k := fun e => hne (by rw [e])
  simp [setBlock, Array.getElem?_setIfInBounds, this]
theorem setBlock_at {w : World} {r : Nat} (h : r < w.heap.size) (ob : Obj) : (setBlock w r ob).heap[r]? = some ob := by
  simp [setBlock, Array.getElem?_setIfInBounds, h]

/-! ### Rows as keys and elements -/
theorem eqVs_rows : ∀ {ks : List CE} {a b : List Int}, rowIn ks a = true → rowIn ks b = true → eqVs (rowV ks a) (rowV ks b) = (a == b)
  | [], [], [], _, _ => rfl
  | some k :: ks, x :: xs, y :: ys, ha, hb => by
    simp only [rowIn, Bool.and_eq_true] at ha hb
    simp only [rowV, cellV, eqVs, eqVs_rows ha.2 hb.2]
    rfl
  | none :: ks, x :: xs, y :: ys, ha, hb => by
    simp only [rowIn, Bool.and_eq_true, inCE, Bool.or_eq_true, beq_iff_eq] at ha hb
    simp only [rowV, cellV, eqVs, eqVs_rows ha.2 hb.2]
    show _ = ((x == y) && (xs == ys))
    rcases ha.1 with rfl | rfl <;> rcases hb.1 with rfl | rfl <;> rfl
theorem kindsV_row : ∀ {zs : List C} {ks : List CE} {a : List Int}, ksOf zs = some ks → rowIn ks a = true → kindsV (rowV ks a) zs
  | [], ks, a, h, ha => by cases h; cases a with
    | nil => trivial
    | cons => cases ha
  | .int k e :: zs, ks, a, h, ha => by
    simp only [ksOf, Option.map_eq_some_iff] at h
    obtain ⟨l, hl, rfl⟩ := h
    cases a with
    | nil => cases ha
    | cons x xs =>
      simp only [rowIn, Bool.and_eq_true] at ha
      exact ⟨rfl, ha.1, kindsV_row hl ha.2⟩
  | .bool e :: zs, ks, a, h, ha => by
    simp only [ksOf, Option.map_eq_some_iff] at h
    obtain ⟨l, hl, rfl⟩ := h
    cases a with
    | nil => cases ha
    | cons x xs =>
      simp only [rowIn, Bool.and_eq_true] at ha
      exact kindsV_row (zs := zs) (ks := l) (a := xs) hl ha.2
theorem ksOf_length : ∀ {zs : List C} {ks : List CE}, ksOf zs = some ks → ks.length = zs.length
  | [], _, h => by cases h; rfl
  | .int _ _ :: zs, ks, h => by
    simp only [ksOf, Option.map_eq_some_iff] at h
    obtain ⟨l, hl, rfl⟩ := h
    simp [ksOf_length hl]
  | .bool _ :: zs, ks, h => by
    simp only [ksOf, Option.map_eq_some_iff] at h
    obtain ⟨l, hl, rfl⟩ := h
    simp [ksOf_length hl]
theorem kindsC_length : ∀ {cs zs : List C}, kindsC cs zs = true → cs.length = zs.length
  | [], [], _ => rfl
  | .int _ _ :: l, .int _ _ :: r, h => by simp only [kindsC, Bool.and_eq_true] at h; simp [kindsC_length h.2]
  | .bool _ :: l, .bool _ :: r, h => by simp only [kindsC] at h; simp [kindsC_length h]
theorem rowV_take : ∀ (ks : List CE) (r : List Int) (n : Nat), (rowV ks r).take n = rowV (ks.take n) (r.take n)
  | [], r, n => by simp [rowV]
  | k :: ks, [], n => by cases n <;> simp [rowV]
  | k :: ks, x :: xs, 0 => by simp [rowV]
  | k :: ks, x :: xs, n + 1 => by simp [rowV, rowV_take ks xs n]
theorem rowIn_take : ∀ {ks : List CE} {r : List Int} (n : Nat), rowIn ks r = true → rowIn (ks.take n) (r.take n) = true
  | [], [], n, _ => by simp [rowIn]
  | k :: ks, x :: xs, 0, _ => rfl
  | k :: ks, x :: xs, n + 1, h => by
    simp only [rowIn, Bool.and_eq_true] at h
    simp [rowIn, h.1, rowIn_take n h.2]
def valsR (r : List Int) : Nat → List CE → List Value
  | _, [] => []
  | c, k :: ks => cellV k (r.getD c 0) :: valsR r (c + 1) ks
theorem valsR_cons (x : Int) (xs : List Int) : ∀ (ks : List CE) (c : Nat), valsR (x :: xs) (c + 1) ks = valsR xs c ks
  | [], c => rfl
  | k :: ks, c => by simp only [valsR, valsR_cons x xs ks (c + 1)]; rfl
theorem valsR_row : ∀ {ks : List CE} {r : List Int} (c : Nat), rowIn ks r = true → valsR r c (ks.drop c) = (rowV ks r).drop c
  | [], [], c, _ => by simp [valsR, rowV]
  | k :: ks, x :: xs, 0, h => by
    simp only [rowIn, Bool.and_eq_true] at h
    have := valsR_row 0 h.2
    simp only [List.drop_zero] at this ⊢
    simp only [valsR, rowV, valsR_cons, this]
    rfl
  | k :: ks, x :: xs, c + 1, h => by
    simp only [rowIn, Bool.and_eq_true] at h
    simp only [List.drop_succ_cons, valsR_cons, rowV]
    exact valsR_row c h.2
theorem valsR_take : ∀ {ks : List CE} {r : List Int} (c : Nat), rowIn ks r = true → valsR r 0 (ks.take c) = (rowV ks r).take c
  | [], [], c, _ => by simp [valsR, rowV]
  | k :: ks, x :: xs, 0, h => by simp [valsR]
  | k :: ks, x :: xs, c + 1, h => by
    simp only [rowIn, Bool.and_eq_true] at h
    simp only [List.take_succ_cons, valsR, rowV, valsR_cons, valsR_take c h.2]
    rfl
theorem rowCs_den {j : J} {l e : E} : ∀ (ks : List CE) (c : Nat), denL ρ j (rowCs l e c ks) = some (valsR ((l.R ρ).getD (e.I ρ).toNat []) c ks)
  | [], c => rfl
  | k :: ks, c => by
    simp only [rowCs, denL, rowC_den, rowCs_den ks (c + 1), valsR]
    rfl
theorem zeros_den {j : J} : ∀ {zs : List C} {ks : List CE} (c : Nat), zs.all C.isZero = true → ksOf zs = some ks → denL ρ j zs = some (valsR [] c ks)
  | [], ks, c, _, h => by cases h; rfl
  | .int k (.lit z) :: zs, ks, c, hz, h => by
    simp only [ksOf, Option.map_eq_some_iff] at h
    obtain ⟨l, hl, rfl⟩ := h
    simp only [List.all_cons, Bool.and_eq_true] at hz
    have e : z = 0 := zSame_eq hz.1
    subst e
    simp only [denL, C.den, E.I, zeros_den (c + 1) hz.2 hl, valsR]
    simp [cellV]
  | .bool (.tt b) :: zs, ks, c, hz, h => by
    simp only [ksOf, Option.map_eq_some_iff] at h
    obtain ⟨l, hl, rfl⟩ := h
    simp only [List.all_cons, Bool.and_eq_true] at hz
    have e : b = false := by simpa [C.isZero] using hz.1
    subst e
    simp only [denL, C.den, E.B, zeros_den (c + 1) hz.2 hl, valsR]
    simp [cellV]

/-! ### Entries -/
theorem entsV_get {ks : List CE} {nk : Nat} {ka va : Bool} : ∀ (L : List (List Int)) (i m : Nat), (entsV ks nk ka va i L)[m]? = (L[m]?).map (entV ks nk ka va (i + m))
  | [], i, m => by simp [entsV]
  | r :: L, i, 0 => by simp [entsV]
  | r :: L, i, m + 1 => by
    simp only [entsV, List.getElem?_cons_succ, entsV_get L (i + 1) m]
    congr 2
    omega
theorem entsV_length {ks : List CE} {nk : Nat} {ka va : Bool} : ∀ (L : List (List Int)) (i : Nat), (entsV ks nk ka va i L).length = L.length
  | [], i => rfl
  | r :: L, i => by simp [entsV, entsV_length L]
def isKey (key r : List Int) : Bool := r.take key.length == key
def found (ks : List CE) (nk : Nat) (va : Bool) (key : List Int) (i : Nat) (L : List (List Int)) : Option (Nat × Value) :=
  (L[L.findIdx (isKey key)]?).map fun r => (i + L.findIdx (isKey key), cellsV va ((rowV ks r).drop nk))
theorem found_cons {ks : List CE} {nk : Nat} {va : Bool} {key : List Int} {i : Nat} {r : List Int} {L : List (List Int)} : found ks nk va key i (r :: L) = if isKey key r = true then some (i, cellsV va ((rowV ks r).drop nk)) else found ks nk va key (i + 1) L := by
  unfold found
  rw [List.findIdx_cons]
  cases h : isKey key r with
  | true => simp
  | false =>
    simp only [cond_false, List.getElem?_cons_succ, Bool.false_eq_true, if_false]
    congr 1
    funext r
    congr 1
    omega
theorem findAsking_ok {ks : List CE} {nk kt : Nat} {ka va : Bool} {key : List Int} {K : Value} : ∀ (L : List (List Int)) (i : Nat) (w : World), (∀ r ∈ L, ∀ i w, (Op.equal kt K (entV ks nk ka va i r).key).run P w = .ok (isKey key r) w) →
    (Instr.findAsking kt K (entsV ks nk ka va i L) i).run P w = .ok (found ks nk va key i L) w
  | [], i, w, _ => by simp [entsV, Instr.findAsking, found]
  | r :: L, i, w, h => by
    simp only [entsV, Instr.findAsking, Sem.run_bind, h r List.mem_cons_self, Result.andThen_ok, found_cons]
    cases isKey key r with
    | true => simp [entV]
    | false => simp only [Bool.false_eq_true, if_false]; exact findAsking_ok L (i + 1) w (fun r hr => h r (List.mem_cons_of_mem _ hr))
theorem findNow_ok {ks : List CE} {nk : Nat} {kd : IntKind} {va : Bool} {x : Int} (hks : ∃ t, ks = some kd :: t) (hn : nk = 1) : ∀ (L : List (List Int)) (i : Nat), (∀ r ∈ L, rowIn ks r = true) →
    Instr.findNow (.int kd) (.int kd x) (entsV ks nk false va i L) i = some (found ks nk va [x] i L)
  | [], i, _ => by simp [entsV, Instr.findNow, found]
  | r :: L, i, h => by
    obtain ⟨t, rfl⟩ := hks
    subst hn
    have hr := h r List.mem_cons_self
    cases r with
    | nil => cases hr
    | cons y ys =>
      have e : (entV (some kd :: t) 1 false va i (y :: ys)).key = .int kd y := rfl
      simp only [entsV, Instr.findNow, e, Instr.sameNow, if_true]
      rw [found_cons]
      have e2 : isKey [x] (y :: ys) = (x == y) := by
        show ([y] == [x]) = _
        rw [Bool.eq_iff_iff]; simp; exact eq_comm
      rw [e2]
      cases x == y with
      | true => rfl
      | false => simp only [Bool.false_eq_true, if_false]; exact findNow_ok ⟨t, rfl⟩ rfl L (i + 1) (fun r hr => h r (List.mem_cons_of_mem _ hr))
theorem mix_found {ks : List CE} {nk : Nat} {va : Bool} {key : List Int} {L : List (List Int)} : decide (mixI L key < (L.length : Int)) = (found ks nk va key 0 L).isSome := by
  unfold found mixI
  rw [show (fun r : List Int => r.take key.length == key) = isKey key from rfl]
  rw [Bool.eq_iff_iff]
  simp only [decide_eq_true_eq, Option.isSome_map]
  rw [Option.isSome_iff_ne_none, ne_eq, List.getElem?_eq_none_iff]
  omega

/-- What is known where a key fits a map. -/
structure Fits (P : Program) (ρ : Env) (i : TI) (r : RowOb) (nk : Nat) (ka va : Bool) (ki ei : TI) (kt et t : Nat) (K : Value) (kvals : List Value) (key : List Int) : Prop where
  ty : r.ty = t
  und : P.underlying t = some (.map kt et)
  kval : K = cellsV ka kvals
  kk : kvals = rowV (r.ks.take nk) key
  kin : rowIn (r.ks.take nk) key = true
  len : key.length = nk
  pos : nk ≤ r.ks.length
  zero : ∃ z, (∀ w, (zeroValue et).run P w = .ok z w) ∧ z = cellsV va (valsR [] nk (r.ks.drop nk))
  chk : ∀ b w, (Instr.checkKey b 10000 kt K).run P w = .ok () w
  find : ∀ L : List (List Int), (∀ x ∈ L, rowIn r.ks x = true) → ∀ w, (Instr.findKey kt K (entsV r.ks nk ka va 0 L)).run P w = .ok (found r.ks nk va key 0 L) w
  bits : Instr.sameBits 10000 K K = true
theorem kv_val {j : J} {kv : V} {K : Value} {ka : Bool} {vals : List Value} (hd : kv.den ρ j = some K) (ha : aggIs ka kv = true) (hv : denL ρ j kv.cells = some vals) : K = cellsV ka vals := by
  cases kv with
  | one c =>
    have : ka = false := by simpa [aggIs] using ha
    subst this
    have hd' : c.den ρ j = some K := hd
    simp only [V.cells, denL, hd', Option.some.injEq] at hv
    subst hv
    rfl
  | agg cs =>
    have : ka = true := ha
    subst this
    simp only [V.den, Option.map_eq_some_iff] at hd
    obtain ⟨vs, h1, rfl⟩ := hd
    simp only [V.cells] at hv
    rw [h1] at hv; cases hv
    rfl
  | tup _ => cases ha
  | top => cases hd
theorem sameBits_cell (n : Nat) (k : CE) (x : Int) : Instr.sameBits (n + 1) (cellV k x) (cellV k x) = true := by
  cases k <;> simp [cellV, Instr.sameBits]
theorem rowV_mem : ∀ {ks : List CE} {r : List Int} {v : Value}, v ∈ rowV ks r → ∃ k x, v = cellV k x
  | [], _, v, h => by simp [rowV] at h
  | k :: ks, [], v, h => by simp [rowV] at h
  | k :: ks, x :: xs, v, h => by
    rcases List.mem_cons.1 h with rfl | h
    · exact ⟨k, x, rfl⟩
    · exact rowV_mem h
theorem sameBits_row {ks : List CE} {r : List Int} : Instr.sameBits 10000 (.agg (rowV ks r).toArray) (.agg (rowV ks r).toArray) = true := by
  show ((rowV ks r).toArray.size == (rowV ks r).toArray.size && ((rowV ks r).toArray.toList.zip (rowV ks r).toArray.toList).all fun (x, y) => Instr.sameBits 9999 x y) = true
  rw [Bool.and_eq_true]
  refine ⟨by simp, List.all_eq_true.2 fun p hp => ?_⟩
  have e : ∀ (l : List Value), ∀ p ∈ l.zip l, p.1 = p.2 ∧ p.1 ∈ l := by
    intro l
    induction l with
    | nil => intro p hp; simp at hp
    | cons a l ih =>
      intro p hp
      rcases List.mem_cons.1 hp with rfl | hp
      · exact ⟨rfl, List.mem_cons_self⟩
      · exact ⟨(ih p hp).1, List.mem_cons_of_mem _ (ih p hp).2⟩
  obtain ⟨h1, h2⟩ := e _ p hp
  obtain ⟨a, b⟩ := p
  simp only at h1 h2
  subst h1
  obtain ⟨k, x, rfl⟩ := rowV_mem h2
  exact sameBits_cell 9998 k x
theorem sameNow_agg (d : TypeDesc) (a : Array Value) (v : Value) : Instr.sameNow d (.agg a) v = none := by cases d <;> rfl
theorem checkInt {kt : Nat} {kd kd' : IntKind} (hu : P.underlying kt = some (.int kd)) (x : Int) (b : Bool) (w : World) : (Instr.checkKey b 10000 kt (.int kd' x)).run P w = .ok () w := by
  show (Instr.checkKey b (9999 + 1) kt (.int kd' x)).run P w = _
  unfold Instr.checkKey
  rw [Sem.run_bind, run_underlying hu]
  rfl
theorem fits_of (hT : ∀ t i, (t, i) ∈ cx.ty → TIok P t i) {j : J} {vk : List VK} (hv : Vk ρ vk) {t kt et nk : Nat} {i ki ei : TI} {r : RowOb} {ka va : Bool} {kv : V} {K : Value} {key : E} (hi : lookN t cx.ty = some i) (hm : i.mapt = some (kt, et)) (hki : lookN kt cx.ty = some ki) (hei : lookN et cx.ty = some ei)
    (hkey : rowE vk (r.ks.take nk) kv.cells = some key) (hf : keyFits i r nk ka va ki ei kv t = true) (hd : kv.den ρ j = some K) : ∃ kvals, denL ρ j kv.cells = some kvals ∧ Fits P ρ i r nk ka va ki ei kt et t K kvals (key.L ρ) := by
  have ti := hT _ _ (lookN_mem hi)
  have tk := hT _ _ (lookN_mem hki)
  have te := hT _ _ (lookN_mem hei)
  unfold keyFits at hf
  simp only [Bool.and_eq_true, beq_iff_eq] at hf
  obtain ⟨f1, f2, f3, f4, f5, f6, f7, f8, f9⟩ := hf
  split at f9
  · rename_i a b ha hb
    have hks := ceSame_eq f9
    have hn : nk = kv.cells.length := Nat.eq_of_beq_eq_true f8
    have hal : a.length = nk := by rw [ksOf_length ha, hn, kindsC_length f6]
    have t1 : r.ks.take nk = a := by rw [hks, ← hal, List.take_left']; rfl
    have t2 : r.ks.drop nk = b := by rw [hks, ← hal, List.drop_left']; rfl
    have hflat : kv.flat = true := by cases kv <;> first | rfl | (cases f2)
    obtain ⟨kvals, hkv⟩ : ∃ kvals, denL ρ j kv.cells = some kvals := ⟨_, V.cells_ok hd hflat⟩
    obtain ⟨e1, e2⟩ := rowE_ok hv hkey hkv
    have hK := kv_val hd f2 hkv
    have hlen : (key.L ρ).length = nk := by rw [rowIn_length e2, t1, hal]
    have isz : 0 < 10000 := by decide
    refine ⟨kvals, hkv, Nat.eq_of_beq_eq_true f1, ti.mapt _ _ hm, hK, e1, e2, hlen, by rw [hks, List.length_append]; omega, ?_, ?_, ?_, ?_⟩
    · obtain ⟨z, hz, hzd⟩ := te.zero
      refine ⟨z, hz, ?_⟩
      have h1 := hzd ρ j
      rw [zeros_den nk f5 hb] at h1
      have h2 := te.zsh z hz
      have hzc : z.cells.toList = valsR [] nk b := (Option.some.inj h1).symm
      rw [t2]
      cases va with
      | true => rw [h2.1 f4, ← hzc]; simp [cellsV]
      | false =>
        have h3 := h2.2 f4
        rw [h3] at hzc
        simp only [cellsV, Bool.false_eq_true, if_false, ← hzc]
        rfl
    all_goals
      cases ka with
      | true =>
        simp only [cond_true, Bool.and_eq_true] at f7
        have K1 : K = .agg (rowV a (key.L ρ)).toArray := by rw [hK, e1, t1]; rfl
        have kz := kindsV_row ha (t1 ▸ e2)
        first
          | exact fun b w => by rw [K1]; exact tk.key f7.1 _ kz b w
          | (intro L hL w
             unfold Instr.findKey
             obtain ⟨d, hdu⟩ := tk.und
             rw [Sem.run_bind, run_underlying hdu, Result.andThen_ok]
             cases L with
             | nil => simp [entsV, Instr.findNow, found]
             | cons x L =>
               simp only [entsV, Instr.findNow]
               rw [K1, sameNow_agg]
               simp only
               rw [← K1]
               refine findAsking_ok (x :: L) 0 w fun y hy i w => ?_
               have hy' := hL y hy
               have e3 : (entV r.ks nk true va i y).key = .agg (rowV a (y.take nk)).toArray := by
                 show cellsV true ((rowV r.ks y).take nk) = _
                 rw [rowV_take, t1]; rfl
               have hy2 : rowIn a (y.take nk) = true := t1 ▸ rowIn_take nk hy'
               rw [K1, e3, tk.eq f7.2 _ _ kz (kindsV_row ha hy2), eqVs_rows (t1 ▸ e2) hy2]
               congr 1
               unfold isKey
               rw [hlen, Bool.eq_iff_iff]
               simp only [beq_iff_eq]
               exact eq_comm)
          | (rw [K1]; exact sameBits_row)
      | false =>
        simp only [cond_false] at f7
        split at f7
        · rename_i kd kd' rest hik hr0
          simp only [Bool.and_eq_true] at f7
          have hkd := kdSame_eq f7.1
          subst hkd
          have n1 : nk = 1 := Nat.eq_of_beq_eq_true f7.2
          subst n1
          have hu := tk.ik kd hik
          have ha' : a = [some kd] := by rw [← t1, hr0]; rfl
          obtain ⟨x, hx⟩ : ∃ x, key.L ρ = [x] := by
            have := hlen
            match hk2 : key.L ρ, this with
            | [x], _ => exact ⟨x, rfl⟩
          have K1 : K = .int kd x := by rw [hK, e1, t1, ha', hx]; rfl
          first
            | exact fun b w => by rw [K1]; exact checkInt hu x b w
            | (intro L hL w
               unfold Instr.findKey
               rw [Sem.run_bind, run_underlying hu, Result.andThen_ok, K1, findNow_ok ⟨rest, hr0⟩ rfl L 0 hL, hx]
               rfl)
            | (rw [K1]; exact sameBits_cell 9999 (some kd) x)
        · cases f7
  · cases f9

theorem mp_of {j : J} {id : Nat} {s : SV} {v : Value} (hs : j.s id = some s) (h : (V.one (.mp id)).den ρ j = some v) : v = s.mv := by
  have h' : (j.s id).map SV.mv = some v := h
  rw [hs] at h'
  exact (Option.some.inj h').symm
theorem Vw.mw_some {vw : Vw} {id nk : Nat} {r : RowOb} {ka va : Bool} (h : vw.mw id = some (r, nk, ka, va)) : vw.rw id = some r ∧ r.kd = .map nk ka va := by
  unfold Vw.mw at h
  split at h
  · rename_i q hq
    split at h
    · rename_i hk; cases h; exact ⟨hq, hk⟩
    · cases h
  · cases h
theorem Vw.iw_some {vw : Vw} {id mid : Nat} {r : RowOb} {n : E} (h : vw.iw id = some (r, mid, n)) : vw.rw id = some r ∧ r.kd = .it mid n := by
  unfold Vw.iw at h
  split at h
  · rename_i q hq
    split at h
    · rename_i hk; cases h; exact ⟨hq, hk⟩
    · cases h
  · cases h
/-- A map's block. -/
theorem RowOk.map {w : World} {s : SV} {r : RowOb} {nk : Nat} {ka va : Bool} (h : RowOk ρ base w s r) (hk : r.kd = .map nk ka va) : ∃ g, s.a = some ⟨g, 0, none⟩ ∧ base ≤ g ∧ w.heap[g]? = some (.map (entsV r.ks nk ka va 0 (r.l.R ρ)).toArray (r.l.R ρ).length) ∧ RowsIn r.ks (r.l.R ρ) ∧ s.c = 1 ∧ r.own = true := by
  have hd := h.2 (by rw [hk]; simp)
  obtain ⟨g, ob, h1, h2, h3, h4⟩ := hd.at'
  unfold obOf at h4
  rw [hk] at h4
  exact ⟨g, h1, h2, by rw [h3, h4], hd.rows, hd.c, hd.own⟩
theorem map_ok {w : World} {s : SV} {r : RowOb} {nk : Nat} {ka va : Bool} {g : Nat} (hk : r.kd = .map nk ka va) (ho : r.own = true) (h1 : s.a = some ⟨g, 0, none⟩) (h2 : base ≤ g) (h3 : w.heap[g]? = some (.map (entsV r.ks nk ka va 0 (r.l.R ρ)).toArray (r.l.R ρ).length)) (h4 : RowsIn r.ks (r.l.R ρ)) (h5 : s.c = 1) : RowOk ρ base w s r :=
  HdOk.row ⟨ho, h4, h5, g, _, h1, h2, h3, by unfold obOf; rw [hk]⟩ (by rw [hk]; simp)

theorem snd_makeMap (hT : ∀ t i, (t, i) ∈ cx.ty → TIok P t i) {t kt et : Nat} {kw : Kw} (hop : o.op = .makeMap t none) {i ki ei : TI} (hi : lookN t cx.ty = some i) (hm : i.mapt = some (kt, et)) {kk ek : List CE}
    (h : (k { val := .one (.mp vw.nid), re := .mk [⟨kk ++ ek, t, .lnil, true, .map kk.length ki.agg ei.agg⟩] } kw).holds sp G ρ I) (hg : Good sp cx.sm ρ kw) : Sound P sp ρ G I base cx vw o k kw := by
  refine ⟨_, kw, h, hg, .refl _, fun j a w hb hev hrd hwr hrr hfb K Q hK => ?_⟩
  have hx : Ext w (w.alloc (.map #[] 0)) := (Ext.refl w).alloc _
  refine wp_val (w' := w.alloc (.map #[] 0)) (v := .map (some w.heap.size)) ?_ (hK _ (j.putL vw.nid [⟨some ⟨w.heap.size, 0, none⟩, 1, 1⟩]) _ (by simp [V.den, C.den, J.putL, SV.mv]) (mk_one hx (map_ok (g := w.heap.size) rfl rfl rfl (Nat.le_refl _) (heap_alloc_new _ _) ⟨by simp [E.R], by simp [E.R]⟩ rfl) rfl rfl))
  simp [execOp, hop, Instr.makeMap, newObj, Sem.run_bind, Sem.run]
theorem run_lookup_ok {w : World} {t kt et nk g : Nat} {i ki ei : TI} {r : RowOb} {ka va : Bool} {K : Value} {kvals : List Value} {key : List Int} (hF : Fits P ρ i r nk ka va ki ei kt et t K kvals key) {L : List (List Int)} (hL : ∀ x ∈ L, rowIn r.ks x = true) (hw : w.heap[g]? = some (.map (entsV r.ks nk ka va 0 L).toArray L.length)) (ok : Bool) :
    (Instr.lookup t (.map (some g)) K ok).run P w = .ok (if ok = true then .tuple #[cellsV va (valsR (L.getD (mixI L key).toNat []) nk (r.ks.drop nk)), .bool (decide (mixI L key < (L.length : Int)))] else cellsV va (valsR (L.getD (mixI L key).toNat []) nk (r.ks.drop nk))) w := by
  have hfd := hF.find L hL w
  obtain ⟨z, hz, hz2⟩ := hF.zero
  have hmx : (mixI L key).toNat = L.findIdx (isKey key) := by
    unfold mixI
    rw [show (fun r : List Int => r.take key.length == key) = isKey key from rfl]; simp
  have key' : (Instr.lookup t (.map (some g)) K ok).run P w = ((match found r.ks nk va key 0 L with
      | some (_, v) => pure (v, true)
      | none => do pure (← zeroValue et, false) : Sem (Value × Bool)) >>= fun p => pure (if ok = true then .tuple #[p.1, .bool p.2] else p.1)).run P w := by
    unfold Instr.lookup
    simp only [Sem.run_bind, run_underlying hF.und, Result.andThen_ok, run_getMap hw, Sem.run_pure, hF.chk, hfd]
    cases found r.ks nk va key 0 L with
    | none => simp only [Sem.run_bind, hz, Result.andThen_ok, Sem.run_pure]
    | some p => obtain ⟨a, b⟩ := p; simp only [Sem.run_bind, Result.andThen_ok, Sem.run_pure]
  rw [key', mix_found (ks := r.ks) (nk := nk) (va := va)]
  rw [hmx]
  unfold found
  cases hx : L[L.findIdx (isKey key)]? with
  | none =>
    simp only [Option.map_none, Option.isSome_none, Sem.run_bind, hz, Result.andThen_ok, Sem.run_pure]
    rw [List.getD_eq_getElem?_getD, hx, hz2]
    rfl
  | some x =>
    have hxm : x ∈ L := List.mem_of_getElem? hx
    simp only [Option.map_some, Option.isSome_some, Sem.run_bind, Result.andThen_ok, Sem.run_pure]
    rw [List.getD_eq_getElem?_getD, hx]
    simp only [Option.getD_some]
    rw [valsR_row nk (hL x hxm)]
theorem mapVal_den {j : J} {ok va : Bool} {cs : List C} {has : E} {vals : List Value} (hd : denL ρ j cs = some vals) (hl : va = false → cs.length = 1) : (mapVal ok va cs has).den ρ j = some (if ok = true then .tuple #[cellsV va vals, .bool (has.B ρ)] else cellsV va vals) := by
  have one : va = false → ∃ c v, cs = [c] ∧ vals = [v] ∧ c.den ρ j = some v := by
    intro hva
    have := hl hva
    match cs, this with
    | [c], _ =>
      simp only [denL] at hd
      cases hc : c.den ρ j with
      | none => rw [hc] at hd; cases hd
      | some v => rw [hc] at hd; cases hd; exact ⟨c, v, rfl, rfl, hc⟩
  have hb : (C.bool has).den ρ j = some (.bool (has.B ρ)) := rfl
  unfold mapVal
  cases ok with
  | true =>
    simp only [if_true]
    cases va with
    | true => simp [V.den, den0L, den0, hd, hb, cellsV]
    | false =>
      obtain ⟨c, v, rfl, rfl, hc⟩ := one rfl
      simp [V.den, den0L, den0, hc, hb, cellsV]
  | false =>
    cases va with
    | true => simp [V.den, hd, cellsV]
    | false =>
      obtain ⟨c, v, rfl, rfl, hc⟩ := one rfl
      simp [V.den, hc, cellsV]
theorem zsh_len (hT : ∀ t i, (t, i) ∈ cx.ty → TIok P t i) {et : Nat} {ei : TI} (hei : lookN et cx.ty = some ei) (h : ei.agg = false) : ei.zero.length = 1 := by
  have te := hT _ _ (lookN_mem hei)
  obtain ⟨z, hz, hzd⟩ := te.zero
  have h2 := (te.zsh z hz).2 h
  have h3 := hzd ⟨fun _ => 0, fun _ => false, fun _ => []⟩ J.zero
  have h4 := denL_length h3
  rw [h2] at h4
  simpa using h4.symm
theorem fits_elems {i ki ei : TI} {r : RowOb} {nk t : Nat} {ka va : Bool} {kv : V} (hf : keyFits i r nk ka va ki ei kv t = true) : ei.agg = va ∧ (r.ks.drop nk).length = ei.zero.length := by
  unfold keyFits at hf
  simp only [Bool.and_eq_true, beq_iff_eq] at hf
  obtain ⟨f1, f2, f3, f4, f5, f6, f7, f8, f9⟩ := hf
  refine ⟨f4, ?_⟩
  split at f9
  · rename_i a b ha hb
    have hks := ceSame_eq f9
    have hn : nk = kv.cells.length := Nat.eq_of_beq_eq_true f8
    have hal : a.length = nk := by rw [ksOf_length ha, hn, kindsC_length f6]
    rw [hks, ← hal, List.drop_left' rfl, ksOf_length hb]
  · cases f9
theorem snd_lookup (hT : ∀ t i, (t, i) ∈ cx.ty → TIok P t i) {t kt et nk id : Nat} {x y : Operand} {ok : Bool} {kw : Kw} (hop : o.op = .lookup t x y ok) {kv : V} (hx : vw.ev x = some (.one (.mp id))) (hy : vw.ev y = some kv) {i ki ei : TI} (hi : lookN t cx.ty = some i) (hm : i.mapt = some (kt, et)) {r : RowOb} {ka va : Bool} (hr : vw.mw id = some (r, nk, ka, va))
    (hki : lookN kt cx.ty = some ki) (hei : lookN et cx.ty = some ei) {key : E} (hkey : rowE kw.vk (r.ks.take nk) kv.cells = some key) (hf : keyFits i r nk ka va ki ei kv t = true)
    (h : (k { val := mapVal ok va (rowCs r.l (mkMix r.l key) nk (r.ks.drop nk)) (mkLt (mkMix r.l key) (mkLen r.l)), rr := [id] } kw).holds sp G ρ I) (hg : Good sp cx.sm ρ kw) : Sound P sp ρ G I base cx vw o k kw := by
  refine ⟨_, kw, h, hg, .refl _, OpOk.pure fun j a w _ hev _ hrr _ => ?_⟩
  obtain ⟨hr1, hr2⟩ := Vw.mw_some hr
  obtain ⟨s, hs, hok⟩ := hrr id (by simp) r hr1
  obtain ⟨g, h1, h2, h3, h4, h5, h6⟩ := hok.map hr2
  have hdx := mp_of hs (hev x (by simp [hop, Op.operands]) _ hx)
  have hdy := hev y (by simp [hop, Op.operands]) _ hy
  obtain ⟨kvals, hkv, hF⟩ := fits_of hT hg.vk hi hm hki hei hkey hf hdy
  have hrun := run_lookup_ok hF h4.row h3 ok
  refine ⟨_, mapVal_den (rowCs_den _ _) (fun hva => ?_), ?_⟩
  · rw [rowCs_length]
    obtain ⟨e1, e2⟩ := fits_elems hf
    rw [e2]
    exact zsh_len hT hei (by rw [e1, hva])
  · simp only [execOp, hop, hdx, SV.mv, h1, Option.map_some, Sem.run_bind, hrun, Result.andThen_ok, Sem.run_pure, mkMix_I, mkLt_B, mkLen_I]
theorem ents_push {ks : List CE} {nk : Nat} {ka va : Bool} (L : List (List Int)) (r : List Int) : (entsV ks nk ka va 0 L).toArray.push (entV ks nk ka va L.length r) = (entsV ks nk ka va 0 (L ++ [r])).toArray := by
  rw [List.push_toArray]
  congr 1
  apply List.ext_getElem?
  intro m
  rw [entsV_get]
  rcases Nat.lt_trichotomy m L.length with h | h | h
  · rw [List.getElem?_append_left (by rw [entsV_length]; exact h), entsV_get, List.getElem?_append_left h]
  · subst h
    rw [List.getElem?_append_right (by rw [entsV_length]; omega), entsV_length, List.getElem?_append_right (Nat.le_refl _)]
    simp
  · rw [List.getElem?_eq_none (by rw [List.length_append, entsV_length]; simp; omega), List.getElem?_eq_none (by rw [List.length_append]; simp; omega)]
    rfl
theorem ents_set {ks : List CE} {nk : Nat} {ka va : Bool} (L : List (List Int)) (n : Nat) (r : List Int) (K V : Value) (hK : K = cellsV ka ((rowV ks r).take nk)) (hV : V = cellsV va ((rowV ks r).drop nk)) :
    (entsV ks nk ka va 0 L).toArray.modify n (fun e => { e with key := K, val := V }) = (entsV ks nk ka va 0 (L.set n r)).toArray := by
  rw [List.modify_toArray]
  congr 1
  apply List.ext_getElem?
  intro m
  rw [entsV_get, List.getElem?_modify, entsV_get, List.getElem?_set]
  by_cases h : n = m
  · subst h
    rw [if_pos rfl]
    rcases Nat.lt_or_ge n L.length with hl | hl
    · rw [if_pos hl, List.getElem?_eq_getElem hl]
      simp [entV, hK, hV]
    · rw [if_neg (by omega), List.getElem?_eq_none hl]
      rfl
  · rw [if_neg h]
    cases L[m]? <;> simp [h]

theorem run_update_ok {w : World} {t kt et nk g : Nat} {i ki ei : TI} {r : RowOb} {ka va : Bool} {K V : Value} {kvals zvals : List Value} {key row : List Int} (hF : Fits P ρ i r nk ka va ki ei kt et t K kvals key) {L : List (List Int)} (hL : ∀ x ∈ L, rowIn r.ks x = true) (hw : w.heap[g]? = some (.map (entsV r.ks nk ka va 0 L).toArray L.length))
    (hrow : kvals ++ zvals = rowV r.ks row) (hlen : kvals.length = nk) (hV : V = cellsV va zvals) :
    (Instr.mapUpdate t (.map (some g)) K V).run P w = .ok () (setBlock w g (.map (entsV r.ks nk ka va 0 (if decide (mixI L key < (L.length : Int)) = true then L.set (mixI L key).toNat row else L ++ [row])).toArray (if decide (mixI L key < (L.length : Int)) = true then L.set (mixI L key).toNat row else L ++ [row]).length)) := by
  have hmx : (mixI L key).toNat = L.findIdx (isKey key) := by
    unfold mixI
    rw [show (fun r : List Int => r.take key.length == key) = isKey key from rfl]; simp
  have hfd := hF.find L hL w
  have k1 : K = cellsV ka ((rowV r.ks row).take nk) := by rw [← hrow, ← hlen, List.take_left' rfl]; exact hF.kval
  have v1 : V = cellsV va ((rowV r.ks row).drop nk) := by rw [← hrow, ← hlen, List.drop_left' rfl]; exact hV
  rw [hmx, mix_found (ks := r.ks) (nk := nk) (va := va)]
  have key' : ∀ q, found r.ks nk va key 0 L = q → (Instr.mapUpdate t (.map (some g)) K V).run P w = ((match q with
      | some (i, _) => do
        let key ← Instr.keyThatStays ((((entsV r.ks nk ka va 0 L).toArray[i]?).map (·.key)).getD K) K
        setObj g (.map ((entsV r.ks nk ka va 0 L).toArray.modify i fun e => { e with key, val := V }) L.length)
      | none => setObj g (.map ((entsV r.ks nk ka va 0 L).toArray.push { key := K, val := V, born := L.length }) (L.length + 1)) : Sem Unit)).run P w := by
    intro q hq
    unfold Instr.mapUpdate
    simp only [Sem.run_bind, run_underlying hF.und, Result.andThen_ok, run_getMap hw, hF.chk, hfd, hq]
    cases q with
    | none => rfl
    | some p => obtain ⟨a, b⟩ := p; simp only [Sem.run_bind]
  cases hx : L[L.findIdx (isKey key)]? with
  | none =>
    have hq : found r.ks nk va key 0 L = none := by unfold found; rw [hx]; rfl
    rw [key' _ hq, hq]
    simp only [Option.isSome_none, Bool.false_eq_true, if_false]
    rw [run_setMap hw, List.length_append]
    rw [show ({ key := K, val := V, born := L.length } : MapEntry) = entV r.ks nk ka va L.length row by unfold entV; rw [← k1, ← v1], ents_push]
    rfl
  | some x =>
    have hxm : x ∈ L := List.mem_of_getElem? hx
    have hlt := (List.getElem?_eq_some_iff.1 hx).1
    have hq : found r.ks nk va key 0 L = some (0 + L.findIdx (isKey key), cellsV va ((rowV r.ks x).drop nk)) := by unfold found; rw [hx]; rfl
    have hik : isKey key x = true := by
      have h1 := List.findIdx_getElem (w := hlt)
      rw [(List.getElem?_eq_some_iff.1 hx).2] at h1
      exact h1
    have hke : (((entsV r.ks nk ka va 0 L).toArray[0 + L.findIdx (isKey key)]?).map (·.key)).getD K = K := by
      rw [Nat.zero_add]
      have e1 : (entsV r.ks nk ka va 0 L).toArray[L.findIdx (isKey key)]? = some (entV r.ks nk ka va (0 + L.findIdx (isKey key)) x) := by
        rw [List.getElem?_toArray, entsV_get, hx]; rfl
      rw [e1]
      show cellsV ka ((rowV r.ks x).take nk) = K
      rw [hF.kval, hF.kk, rowV_take]
      have : x.take nk = key := by
        have := hik
        unfold isKey at this
        rw [hF.len] at this
        exact eq_of_beq this
      rw [this]
    rw [key' _ hq, hq]
    simp only [Option.isSome_some, if_true, hke]
    have hst : (Instr.keyThatStays K K).run P w = .ok K w := by
      unfold Instr.keyThatStays
      rw [if_pos hF.bits]
      rfl
    simp only [Sem.run_bind, hst, Result.andThen_ok]
    rw [run_setMap hw, Nat.zero_add, ents_set L _ row K V k1 v1, List.length_set]
theorem snd_mapUpdate (hT : ∀ t i, (t, i) ∈ cx.ty → TIok P t i) {t kt et nk id : Nat} {x y z : Operand} {kw : Kw} (hop : o.op = .mapUpdate t x y z) {kv zv : V} (hx : vw.ev x = some (.one (.mp id))) (hy : vw.ev y = some kv) (hz : vw.ev z = some zv) {i ki ei : TI} (hi : lookN t cx.ty = some i) (hm : i.mapt = some (kt, et)) {r : RowOb} {ka va : Bool} (hr : vw.mw id = some (r, nk, ka, va))
    (hki : lookN kt cx.ty = some ki) (hei : lookN et cx.ty = some ei) {key row : E} (hkey : rowE kw.vk (r.ks.take nk) kv.cells = some key) (hrow : rowE kw.vk r.ks (kv.cells ++ zv.cells) = some row) (hf : keyFits i r nk ka va ki ei kv t = true) (hza : aggIs va zv = true)
    (h : (decK (mkLt (mkMix r.l key) (mkLen r.l)) (fun b kw => if b then
              k { val := .one .undef, rr := [id], re := .set id { r with l := .lput r.l (mkMix r.l key) row } } kw
            else decK (mkLt (mkLen r.l) (.lit bigB)) (fun b kw => if b then k { val := .one .undef, rr := [id], re := .set id { r with l := .lapp r.l row } } kw else .stuck 130) kw) kw).holds sp G ρ I) (hg : Good sp cx.sm ρ kw) : Sound P sp ρ G I base cx vw o k kw := by
  obtain ⟨hr1, hr2⟩ := Vw.mw_some hr
  have main : ∀ (l' : E) (kw' : Kw), KwGe kw' kw → Good sp cx.sm ρ kw' → l'.R ρ = (if decide (mixI (r.l.R ρ) (key.L ρ) < ((r.l.R ρ).length : Int)) = true then (r.l.R ρ).set (mixI (r.l.R ρ) (key.L ρ)).toNat (row.L ρ) else r.l.R ρ ++ [row.L ρ]) → (RowsIn r.ks (r.l.R ρ) → (l'.R ρ).length ≤ maxLen) →
      (k { val := .one .undef, rr := [id], re := .set id { r with l := l' } } kw').holds sp G ρ I → Sound P sp ρ G I base cx vw o k kw := by
    intro l' kw' hlv hg' hl hlen hh
    refine ⟨_, kw', hh, hg', hlv, fun j a w hb hev hrd hwr hrr hfb K Q hK => ?_⟩
    obtain ⟨s, hs, hok⟩ := hrr id (by simp) r hr1
    obtain ⟨g, h1, h2, h3, h4, h5, h6⟩ := hok.map hr2
    have hdx := mp_of hs (hev x (by simp [hop, Op.operands]) _ hx)
    have hdy := hev y (by simp [hop, Op.operands]) _ hy
    have hdz := hev z (by simp [hop, Op.operands]) _ hz
    obtain ⟨kvals, hkv, hF⟩ := fits_of hT hg.vk hi hm hki hei hkey hf hdy
    have hzf : zv.flat = true := by cases zv <;> first | rfl | (cases hza)
    have hzv := V.cells_ok hdz hzf
    obtain ⟨e1, e2⟩ := rowE_ok hg.vk hrow (denL_append hkv hzv)
    have hkl : kvals.length = nk := by
      rw [denL_length hkv]
      unfold keyFits at hf
      simp only [Bool.and_eq_true] at hf
      exact (Nat.eq_of_beq_eq_true hf.2.2.2.2.2.2.2.1).symm
    have hrun := run_update_ok hF h4.row h3 e1 hkl (kv_val hdz hza hzv)
    rw [← hl] at hrun
    have hlt := (Array.getElem?_eq_some_iff.1 h3).1
    refine wp_skp (w' := setBlock w g (.map (entsV r.ks nk ka va 0 (l'.R ρ)).toArray (l'.R ρ).length)) ?_ (hK _ j _ rfl ⟨rfl, s, hs, ?_, map_ok (g := g) hr2 h6 h1 h2 (setBlock_at hlt _) ⟨fun q hq => ?_, hlen h4⟩ h5⟩)
    · simp only [execOp, hop, hdx, SV.mv, h1, Option.map_some, Sem.run_bind, hrun, Result.andThen_ok, Sem.run_pure]
    · have : s.v.ownBlock = some g := by simp [SV.v, h1, Value.ownBlock]
      rw [this]
      exact grown_setBlock w g _
    · simp only at hq
      rw [hl] at hq
      split at hq
      · rcases List.mem_or_eq_of_mem_set hq with hq | rfl
        · exact h4.row q hq
        · exact e2
      · rcases List.mem_append.1 hq with hq | hq
        · exact h4.row q hq
        · rw [List.mem_singleton.1 hq]; exact e2
  obtain ⟨kw1, g1, q1, _, l1⟩ := decK_ok _ _ _ h hg
  rw [mkLt_B, mkMix_I, mkLen_I] at g1
  split at g1
  · rename_i hlt
    refine main _ kw1 l1 q1 ?_ (fun h4 => ?_) g1
    · simp only [E.R, mkMix_I]
      rw [if_pos hlt]
    · simp only [E.R, List.length_set]; exact h4.len
  · rename_i hlt
    obtain ⟨kw2, g2, q2, _, l2⟩ := decK_ok _ _ _ g1 q1
    rw [mkLt_B, mkLen_I] at g2
    split at g2
    · rename_i hbig
      refine main _ kw2 (l2.trans l1) q2 ?_ (fun h4 => ?_) g2
      · simp only [E.R]
        rw [if_neg hlt]
      · have := of_decide_eq_true hbig
        simp only [E.I, bigB] at this
        simp only [E.R, List.length_append, List.length_singleton, maxLen]
        omega
    · exact g2.elim
theorem snd_range (hT : ∀ t i, (t, i) ∈ cx.ty → TIok P t i) {t kt et nk id : Nat} {x : Operand} {kw : Kw} (hop : o.op = .range t x) (hx : vw.ev x = some (.one (.mp id))) {i : TI} (hi : lookN t cx.ty = some i) (hm : i.mapt = some (kt, et)) {r : RowOb} {ka va : Bool} (hr : vw.mw id = some (r, nk, ka, va)) (hne : Nat.beq id vw.nid = false)
    (h : (k { val := .one (.itp vw.nid id), rr := [id], re := .mk [⟨[some .i64], t, .lnil, true, .it id (mkLen r.l)⟩] } kw).holds sp G ρ I) (hg : Good sp cx.sm ρ kw) : Sound P sp ρ G I base cx vw o k kw := by
  refine ⟨_, kw, h, hg, .refl _, fun j a w hb hev hrd hwr hrr hfb K Q hK => ?_⟩
  obtain ⟨hr1, hr2⟩ := Vw.mw_some hr
  obtain ⟨s, hs, hok⟩ := hrr id (by simp) r hr1
  obtain ⟨g, h1, h2, h3, h4, h5, h6⟩ := hok.map hr2
  have hdx := mp_of hs (hev x (by simp [hop, Op.operands]) _ hx)
  have hx' : Ext w (w.alloc (.mapIter (some g) (r.l.R ρ).length #[] (r.l.R ρ).length)) := (Ext.refl w).alloc _
  have hid : id ≠ vw.nid := fun e => by rw [e] at hne; simp at hne
  have hden : (V.one (.itp vw.nid id)).den ρ (j.putL vw.nid [⟨some ⟨w.heap.size, 0, none⟩, g, 1⟩]) = some (.pointer (some ⟨w.heap.size, 0, none⟩)) := by
    have e1 : (j.putL vw.nid [⟨some ⟨w.heap.size, 0, none⟩, g, 1⟩]).s vw.nid = some ⟨some ⟨w.heap.size, 0, none⟩, g, 1⟩ := by simp [J.putL]
    have e2 : (j.putL vw.nid [⟨some ⟨w.heap.size, 0, none⟩, g, 1⟩]).s id = some s := by
      simp only [J.putL]
      split
      · have : id - vw.nid ≠ 0 := by omega
        rw [List.getElem?_eq_none (by simp; omega)]
        exact hs
      · exact hs
    show (C.itp vw.nid id).den ρ _ = _
    simp only [C.den, e1, e2, Option.bind_some, h1, if_true, SV.pv, Option.map_some]
  refine wp_val (w' := w.alloc (.mapIter (some g) (r.l.R ρ).length #[] (r.l.R ρ).length)) (v := .pointer (some ⟨w.heap.size, 0, none⟩)) ?_ (hK _ (j.putL vw.nid [⟨some ⟨w.heap.size, 0, none⟩, g, 1⟩]) _ hden (mk_one hx' (HdOk.row ⟨rfl, ⟨by simp [E.R], by simp [E.R]⟩, rfl, w.heap.size, _, rfl, Nat.le_refl _, heap_alloc_new _ _, ?_⟩ (by simp)) rfl rfl))
  · simp [execOp, hop, hdx, SV.mv, h1, Instr.range, newObj, Sem.run_bind, Sem.run, run_underlying (hT _ _ (lookN_mem hi) |>.mapt _ _ hm), run_getMap h3]
  · refine ⟨rfl, ?_, by simp [E.R], by simp [E.R]⟩
    simp [mkLen_I, E.R, idxs]
theorem snd_entry (hT : ∀ t i, (t, i) ∈ cx.ty → TIok P t i) {nk id mid : Nat} {x : Operand} {kw : Kw} (hop : o.op = .entry x) (hx : vw.ev x = some (.one (.itp id mid))) {q r : RowOb} {n : E} {ka va : Bool} (hq : vw.iw id = some (q, mid, n)) {sl iv : E} (hql : q.l = .lapp sl (.cons iv .nil)) (hr : vw.mw mid = some (r, nk, ka, va)) (hn : n.same (mkLen r.l) = true)
    (h : (k { val := .tup [(ka, rowCs r.l iv 0 (r.ks.take nk)), (va, rowCs r.l iv nk (r.ks.drop nk))], rr := [id, mid] } kw).holds sp G ρ I) (hg : Good sp cx.sm ρ kw) (hka : ka = false → nk = 1) (hva : va = false → (r.ks.drop nk).length = 1) (hnk : nk ≤ r.ks.length) : Sound P sp ρ G I base cx vw o k kw := by
  refine ⟨_, kw, h, hg, .refl _, OpOk.pure fun j a w _ hev _ hrr _ => ?_⟩
  obtain ⟨hq1, hq2⟩ := Vw.iw_some hq
  obtain ⟨hr1, hr2⟩ := Vw.mw_some hr
  obtain ⟨s, m, hs, hm', hsm, hv⟩ := itp_of (ρ := ρ) (hev x (by simp [hop, Op.operands]) _ hx)
  obtain ⟨s1, hs1, hok1⟩ := hrr id (by simp) q hq1
  rw [hs] at hs1; cases hs1
  obtain ⟨s2, hs2, hok2⟩ := hrr mid (by simp) r hr1
  rw [hm'] at hs2; cases hs2
  obtain ⟨g, h1, h2, h3, h4, h5, h6⟩ := hok2.map hr2
  have hd := hok1.2 (by rw [hq2]; simp)
  obtain ⟨gi, ob, i1, i2, i3, i4⟩ := hd.at'
  unfold obOf at i4
  rw [hq2] at i4
  obtain ⟨hks, rfl, hnd, hin⟩ := i4
  rw [hsm] at h1; cases h1
  have hL : q.l.R ρ = sl.R ρ ++ [[iv.I ρ]] := by rw [hql]; rfl
  rw [hL] at hin i3
  have hiv := hin [iv.I ρ] (by simp)
  simp only [List.getD_cons_zero] at hiv
  rw [E.same_eq hn, mkLen_I] at hiv
  have hit : idxs (sl.R ρ ++ [[iv.I ρ]]) = idxs (sl.R ρ) ++ [(iv.I ρ).toNat] := by simp [idxs]
  rw [hit] at i3
  have i5 : w.heap[gi]? = some (.mapIter (some s.n) (n.I ρ).toNat ((idxs (sl.R ρ)).toArray.push (iv.I ρ).toNat) (n.I ρ).toNat) := by rw [i3]; simp
  obtain ⟨x0, hx0⟩ : ∃ x0, (r.l.R ρ)[(iv.I ρ).toNat]? = some x0 := ⟨_, List.getElem?_eq_getElem (by omega)⟩
  have hx0m : x0 ∈ r.l.R ρ := List.mem_of_getElem? hx0
  have hxin := h4.row x0 hx0m
  have hent : (entsV r.ks nk ka va 0 (r.l.R ρ))[(iv.I ρ).toNat]? = some (entV r.ks nk ka va (iv.I ρ).toNat x0) := by rw [entsV_get, hx0]; simp
  have hborn : ((entsV r.ks nk ka va 0 (r.l.R ρ)).toArray.toList.map (·.born)).Nodup := by
    have : ∀ (L : List (List Int)) (i : Nat), (entsV r.ks nk ka va i L).map (·.born) = List.range' i L.length := by
      intro L
      induction L with
      | nil => intro i; rfl
      | cons y L ih => intro i; simp only [entsV, List.map_cons, ih, entV, List.length_cons, List.range'_succ]
    simp only [this]
    exact List.nodup_range'
  have hnn : (n.I ρ).toNat = (r.l.R ρ).length := by rw [E.same_eq hn, mkLen_I]; simp
  have hrun := run_entry_at (P := P) w gi s.n (n.I ρ).toNat (idxs (sl.R ρ)).toArray (entsV r.ks nk ka va 0 (r.l.R ρ)).toArray (r.l.R ρ).length (entV r.ks nk ka va (iv.I ρ).toNat x0) (by rw [i5, hnn]; rfl) h3 (List.mem_of_getElem? hent) hborn
  refine ⟨.tuple #[(entV r.ks nk ka va (iv.I ρ).toNat x0).key, (entV r.ks nk ka va (iv.I ρ).toNat x0).val], ?_, ?_⟩
  · have d1 : denL ρ j (rowCs r.l iv 0 (r.ks.take nk)) = some ((rowV r.ks x0).take nk) := by rw [rowCs_den, List.getD_eq_getElem?_getD, hx0]; simp only [Option.getD_some]; rw [valsR_take nk hxin]
    have d2 : denL ρ j (rowCs r.l iv nk (r.ks.drop nk)) = some ((rowV r.ks x0).drop nk) := by rw [rowCs_den, List.getD_eq_getElem?_getD, hx0]; simp only [Option.getD_some]; rw [valsR_row nk hxin]
    have one : ∀ (b : Bool) (cs : List C) (vals : List Value), denL ρ j cs = some vals → (b = false → cs.length = 1) → den0 ρ j (b, cs) = some (cellsV b vals) := by
      intro b cs vals hd hl
      cases b with
      | true => simp [den0, hd, cellsV]
      | false =>
        have := hl rfl
        match cs, this with
        | [c], _ =>
          simp only [denL] at hd
          cases hc : c.den ρ j with
          | none => rw [hc] at hd; cases hd
          | some v => rw [hc] at hd; cases hd; simp [den0, hc, cellsV]
    have p1 := one ka _ _ d1 (fun e => by rw [rowCs_length, List.length_take, hka e]; have := hka e; omega)
    have p2 := one va _ _ d2 (fun e => by rw [rowCs_length]; exact hva e)
    simp only [V.den, den0L, p1, p2, Option.map_some]
    rfl
  · simp only [execOp, hop, hv, SV.pv, i1, Option.map_some, Sem.run_bind, hrun, Result.andThen_ok, Sem.run_pure]
end
end Go.Proofs.Ytgfghplnankgnaa


/- Arrays in boxes that are gone into by number: loads, stores. Nothing of the program is in here. -/
set_option linter.unusedVariables false
set_option linter.unusedSimpArgs false
namespace Go.Proofs.Ytgfghplnankgnaa
open Go.RowKit
open Go.Sort (mapBlock onCells setCell_eq mapBlock_mapBlock mapBlock_congr)

section
variable {P : Program} {sp : Spec} {ρ : Env} {G : Env → E → Prop} {I : Nat → List Dt → Prop} {base : Nat} {cx : Cx} {vw : Vw} {o : Oper} {k : Eff → Kw → Tr}

theorem inR_B (e : E) (n : Nat) : (inR e n).B ρ = (decide (0 ≤ e.I ρ) && decide (e.I ρ < (n : Int))) := by
  unfold inR
  rw [mkAnd_B, mkNot_B, mkLt_B, mkLt_B]
  show (!decide (e.I ρ < 0) && decide (e.I ρ < (n : Int))) = _
  congr 1
  by_cases h : e.I ρ < 0
  · rw [decide_eq_true h, decide_eq_false (by omega : ¬ 0 ≤ e.I ρ)]; rfl
  · rw [decide_eq_false h, decide_eq_true (by omega : 0 ≤ e.I ρ)]; rfl
theorem moved_pe {j : J} {b o n sz : Nat} {e : E} {off fo : Nat} {v : Value} (h : (C.pe b o n sz e off).den ρ j = some v) : ∃ a, v = .pointer (some a) ∧ (C.pe b o n sz e (off + fo)).den ρ j = some (.pointer (some (a.add fo))) := by
  simp only [C.den, Option.map_eq_some_iff] at h
  obtain ⟨kk, hk, rfl⟩ := h
  exact ⟨_, rfl, by simp only [C.den, hk, Option.map_some, add_none]; congr 4; omega⟩
theorem snd_nilCheckS {x : Operand} {kw : Kw} (hop : o.op = .nilCheck x) {b o0 n sz off : Nat} {e : E} (hx : vw.ev x = some (.one (.pe b o0 n sz e off))) (h : (k { val := .one (.pe b o0 n sz e off) } kw).holds sp G ρ I) (hg : Good sp cx.sm ρ kw) : Sound P sp ρ G I base cx vw o k kw := by
  refine ⟨_, kw, h, hg, .refl _, OpOk.pure fun j a w _ hev _ _ _ => ⟨a.eval x, hev x (by simp [hop, Op.operands]) _ hx, ?_⟩⟩
  have hd := hev x (by simp [hop, Op.operands]) _ hx
  obtain ⟨a', he, _⟩ := moved_pe (fo := 0) (show (C.pe b o0 n sz e off).den ρ j = some (a.eval x) from hd)
  simp [execOp, hop, he]
theorem pe_of {j : J} {b o n sz off : Nat} {e : E} {v : Value} (h : (V.one (.pe b o n sz e off)).den ρ j = some v) : ∃ kk, j.b b = some kk ∧ v = .pointer (some ⟨kk, o + ((e.I ρ).toNat * sz + off), none⟩) := by
  simp only [V.den, C.den, Option.map_eq_some_iff] at h
  obtain ⟨kk, h1, h2⟩ := h
  exact ⟨kk, h1, h2.symm⟩
theorem snd_indexSym (hT : ∀ t i, (t, i) ∈ cx.ty → TIok P t i) {t : Nat} {x y : Operand} {kw : Kw} (hop : o.op = .indexAddr t x y) {b off : Nat} (hx : vw.ev x = some (.one (.ptr b off))) {k0 : IntKind} {e : E} (hy : vw.ev y = some (.one (.int k0 e))) {i : TI} (hi : lookN t cx.ty = some i)
    {n et : Nat} (ha : i.arr = some (n, et)) {ie : TI} (hie : lookN et cx.ty = some ie)
    (h : (decK (inR e n) (fun ok kw => if ok then k { val := .one (.pe b off n ie.size e 0) } kw else .panic) kw).holds sp G ρ I) (hg : Good sp cx.sm ρ kw) : Sound P sp ρ G I base cx vw o k kw := by
  obtain ⟨kw1, g1, q1, _, l1⟩ := decK_ok _ _ _ h hg
  rw [inR_B] at g1
  split at g1
  · rename_i hr
    rw [Bool.and_eq_true, decide_eq_true_eq, decide_eq_true_eq] at hr
    have hu := (hT _ _ (lookN_mem hi)).arr n et ha
    have hs := (hT _ _ (lookN_mem hie)).size
    refine ⟨_, kw1, g1, q1, l1, OpOk.pure fun j a w _ hev _ _ _ => ?_⟩
    obtain ⟨kk, hk, he⟩ := ptr_of (hev x (by simp [hop, Op.operands]) _ hx)
    have hq := one_int (hev y (by simp [hop, Op.operands]) _ hy)
    refine ⟨.pointer (some ⟨kk, off + ((e.I ρ).toNat * ie.size + 0), none⟩), by simp [V.den, C.den, hk], ?_⟩
    have hadd : (⟨kk, off, none⟩ : Addr).add ((e.I ρ).toNat * ie.size) = ⟨kk, off + ((e.I ρ).toNat * ie.size + 0), none⟩ := by rw [add_none]; simp
    simp [execOp, hop, he, hq, Instr.indexAt, run_underlying hu, Instr.sureAddr, asIntOf, hr, hs, Sem.run_bind, hadd]
  · exact g1.elim

/-! ### Columns -/
theorem colE_ok {j : J} {k0 : IntKind} {sz c : Nat} : ∀ (n : Nat) (cs : List C) (l : E) (vs : List Value), colE k0 sz c n cs = some l → denL ρ j cs = some vs → ∀ m, m < n → vs[m * sz + c]? = some (.int k0 ((l.L ρ).getD m 0))
  | 0, cs, l, vs, _, _, m, hm => absurd hm (by omega)
  | n + 1, cs, l, vs, h, hd, m, hm => by
    simp only [colE] at h
    split at h
    · rename_i k' a t h1 h2
      split at h
      · rename_i hk
        cases h
        cases m with
        | zero =>
          obtain ⟨v, h3, h4⟩ := denL_get hd c _ h1
          rw [Nat.zero_mul, Nat.zero_add, h3, ← h4, kdSame_eq hk]
          simp [C.den, E.L]
        | succ m =>
          have ih := colE_ok n _ t _ h2 (denL_drop hd sz) m (by omega)
          rw [List.getElem?_drop] at ih
          rw [show (m + 1) * sz + c = sz + (m * sz + c) by rw [Nat.succ_mul]; omega, ih]
          simp [E.L]
      · cases h
    · cases h
theorem colsE_ok {j : J} {e : E} {n sz : Nat} {cs : List C} {vs : List Value} (hd : denL ρ j cs = some vs) (h0 : 0 ≤ e.I ρ) (h1 : e.I ρ < (n : Int)) : ∀ (m c : Nat) (ds : List C), colsE e n sz cs c m = some ds → ds.length = m ∧ denL ρ j ds = some ((vs.drop ((e.I ρ).toNat * sz + c)).take m)
  | 0, c, ds, h => by cases h; simp [denL]
  | m + 1, c, ds, h => by
    simp only [colsE] at h
    split at h
    · rename_i k0 a hc
      split at h
      · rename_i l r h2 h3
        cases h
        obtain ⟨e1, e2⟩ := colsE_ok hd h0 h1 m (c + 1) r h3
        have e3 := colE_ok n cs l vs h2 hd (e.I ρ).toNat (by omega)
        refine ⟨by simp [e1], ?_⟩
        simp only [denL, C.den, E.I, e2]
        have hlt := (List.getElem?_eq_some_iff.1 e3).1
        rw [List.drop_eq_getElem_cons hlt, List.take_succ_cons, (List.getElem?_eq_some_iff.1 e3).2]
        rfl
      · cases h
    · cases h
theorem snd_loadS (hT : ∀ t i, (t, i) ∈ cx.ty → TIok P t i) {t : Nat} {x : Operand} {kw : Kw} (hop : o.op = .load t x) {b o0 n sz off : Nat} {e : E} (hx : vw.ev x = some (.one (.pe b o0 n sz e off))) {i : TI} (hi : lookN t cx.ty = some i) {cs : List C} (hcs : vw.row b o0 (n * sz) = some cs) (hsz : off + i.size ≤ sz)
    (h : (decK (inR e n) (fun ok kw => if ok then
            (match colsE e n sz cs off i.size with
            | some ds => if i.agg then k { val := .agg ds, rd := rowRd b o0 (n * sz) } kw else (match ds with
              | [d] => k { val := .one d, rd := rowRd b o0 (n * sz) } kw
              | _ => .stuck 160)
            | none => .stuck 161)
            else .stuck 162) kw).holds sp G ρ I) (hg : Good sp cx.sm ρ kw) : Sound P sp ρ G I base cx vw o k kw := by
  obtain ⟨kw1, g1, q1, _, l1⟩ := decK_ok _ _ _ h hg
  rw [inR_B] at g1
  split at g1
  · rename_i hr
    rw [Bool.and_eq_true, decide_eq_true_eq, decide_eq_true_eq] at hr
    have ht := hT _ _ (lookN_mem hi)
    have hrow := vw.rowok _ _ _ _ hcs
    split at g1
    · rename_i ds hds
      -- what the cells hold
      have cells : ∀ {j : J} {w : World} {kk : Nat}, j.b b = some kk → RdOk ρ j w vw.ld (rowRd b o0 (n * sz)) → ∃ us, denL ρ j ds = some us ∧ us.length = i.size ∧ ∀ (m : Nat) u, us[m]? = some u → w.cell? ⟨kk, o0 + ((e.I ρ).toNat * sz + off) + m, none⟩ = some u := by
        intro j w kk hk hrd
        obtain ⟨vs, hd, -⟩ := run_loadCells (P := P) (ρ := ρ) hk (n * sz) o0 cs hrow w hrd ⟨kk, o0, none⟩ 0 #[] (fun m => by rw [add_none]; simp)
        obtain ⟨e1, e2⟩ := colsE_ok hd hr.1 hr.2 i.size off ds hds
        refine ⟨_, e2, by rw [denL_length e2, e1], fun m u hu => ?_⟩
        rw [List.getElem?_take] at hu
        split at hu
        · rw [List.getElem?_drop] at hu
          obtain ⟨hl, hget⟩ := rowOf_get _ _ _ hrow
          have hlt := (List.getElem?_eq_some_iff.1 hu).1
          rw [denL_length hd] at hlt
          obtain ⟨c0, hc0⟩ : ∃ c0, cs[(e.I ρ).toNat * sz + off + m]? = some c0 := ⟨_, List.getElem?_eq_getElem hlt⟩
          have hld := hget _ c0 hc0
          obtain ⟨k', v, hk', hv, hcell⟩ := hrd (b, o0 + ((e.I ρ).toNat * sz + off + m)) (by
            have : ∀ (n o p : Nat), p < n → (b, o + p) ∈ rowRd b o n := by
              intro n
              induction n with
              | zero => intro o p hp; omega
              | succ n ih =>
                intro o p hp
                cases p with
                | zero => simp [rowRd]
                | succ p => simp only [rowRd, List.mem_cons]; exact .inr (by have := ih (o + 1) p (by omega); rwa [show o + (p + 1) = o + 1 + p by omega])
            exact this _ _ _ (by omega)) c0 hld
          simp only at hk' hcell
          rw [hk] at hk'; cases hk'
          obtain ⟨v', hv', hd'⟩ := denL_get hd _ c0 hc0
          rw [hv] at hd'; cases hd'
          rw [hv'] at hu; cases hu
          rw [Nat.add_assoc]
          exact hcell
        · cases hu
      split at g1
      · rename_i hagg
        refine ⟨_, kw1, g1, q1, l1, OpOk.pure fun j a w _ hev hrd _ _ => ?_⟩
        obtain ⟨kk, hk, he⟩ := pe_of (hev x (by simp [hop, Op.operands]) _ hx)
        obtain ⟨us, h1, h2, h3⟩ := cells hk hrd
        refine ⟨.agg us.toArray, by simp [V.den, h1], ?_⟩
        have hload := run_loadVals (P := P) (a := ⟨kk, o0 + ((e.I ρ).toNat * sz + off), none⟩) (w := w) us 0 #[] (fun m u hu => by rw [Nat.zero_add, add_none]; exact h3 m u hu)
        rw [h2] at hload
        simp [execOp, hop, he, Instr.loadAt, Instr.sureAddr, Sem.run_bind, loadVar, ht.agg, hagg, ht.size, loadCells, hload]
      · rename_i hagg
        split at g1
        · rename_i d
          refine ⟨_, kw1, g1, q1, l1, OpOk.pure fun j a w _ hev hrd _ _ => ?_⟩
          obtain ⟨kk, hk, he⟩ := pe_of (hev x (by simp [hop, Op.operands]) _ hx)
          obtain ⟨us, h1, h2, h3⟩ := cells hk hrd
          simp only [denL] at h1
          cases hdd : d.den ρ j with
          | none => rw [hdd] at h1; cases h1
          | some v =>
            rw [hdd] at h1; cases h1
            have hcell := h3 0 v rfl
            rw [Nat.add_zero] at hcell
            have hagg' : i.agg = false := by simpa using hagg
            refine ⟨v, hdd, ?_⟩
            simp [execOp, hop, he, Instr.loadAt, Instr.sureAddr, Sem.run_bind, loadVar, ht.agg, hagg', load, Sem.run, hcell]
        · exact g1.elim
    · exact g1.elim
  · exact g1.elim

/-! ### Stores -/
def setV : Nat → List Value → List Value → List Value
  | off + 1, x :: xs, us => x :: setV off xs us
  | 0, x :: xs, u :: us => u :: setV 0 xs us
  | _, xs, _ => xs
theorem setV_get : ∀ (off : Nat) (xs us : List Value) (p : Nat), (setV off xs us)[p]? = if off ≤ p ∧ p < off + us.length ∧ p < xs.length then us[p - off]? else xs[p]?
  | off + 1, x :: xs, us, 0 => by simp [setV]
  | off + 1, x :: xs, us, p + 1 => by
    simp only [setV, List.getElem?_cons_succ, setV_get off xs us p, List.length_cons]
    by_cases h : off ≤ p ∧ p < off + us.length ∧ p < xs.length
    · rw [if_pos h, if_pos (by omega)]; congr 1; omega
    · rw [if_neg h, if_neg (by omega)]
  | 0, x :: xs, u :: us, 0 => by simp [setV]
  | 0, x :: xs, u :: us, p + 1 => by
    simp only [setV, List.getElem?_cons_succ, setV_get 0 xs us p, List.length_cons]
    by_cases h : 0 ≤ p ∧ p < 0 + us.length ∧ p < xs.length
    · rw [if_pos h, if_pos (by omega)]; simp
    · rw [if_neg h, if_neg (by omega)]
  | 0, x :: xs, [], p => by
    rw [if_neg (by simp)]
    rfl
  | 0, [], us, p => by cases us <;> simp [setV]
  | off + 1, [], us, p => by simp [setV]
theorem setV_length : ∀ (off : Nat) (xs us : List Value), (setV off xs us).length = xs.length
  | off + 1, x :: xs, us => by simp [setV, setV_length off xs us]
  | 0, x :: xs, u :: us => by simp [setV, setV_length 0 xs us]
  | 0, x :: xs, [] => rfl
  | 0, [], us => by cases us <;> rfl
  | off + 1, [], us => rfl
theorem setI_ok {j : J} {c : E} : ∀ (off : Nat) (xs vc r : List C) (vs us : List Value), setI c off xs vc = some r → denL ρ j xs = some vs → denL ρ j vc = some us → denL ρ j r = some (if c.B ρ = true then setV off vs us else vs)
  | off + 1, x :: xs, vc, r, vs, us, h, h1, h2 => by
    simp only [setI, Option.map_eq_some_iff] at h
    obtain ⟨r', h3, rfl⟩ := h
    simp only [denL] at h1
    cases hx : x.den ρ j with
    | none => rw [hx] at h1; cases h1
    | some v =>
      cases hl : denL ρ j xs with
      | none => rw [hx, hl] at h1; cases h1
      | some l =>
        rw [hx, hl] at h1; cases h1
        simp only [denL, hx, setI_ok off xs vc r' l us h3 hl h2]
        split <;> simp [setV]
  | 0, xs, [], r, vs, us, h, h1, h2 => by
    cases h2
    have : r = xs := by cases xs <;> simpa [setI] using h.symm
    subst this
    rw [h1]
    cases vs <;> simp [setV]
  | 0, x :: xs, y :: vc, r, vs, us, h, h1, h2 => by
    cases x <;> first | (simp only [setI] at h; cases h; done) | skip
    cases y <;> first | (simp only [setI] at h; cases h; done) | skip
    rename_i k a k' b
    simp only [setI] at h
    split at h
    · rename_i hk
      rw [Option.map_eq_some_iff] at h
      obtain ⟨r', h3, rfl⟩ := h
      simp only [denL, C.den] at h1 h2
      cases hl : denL ρ j xs with
      | none => rw [hl] at h1; cases h1
      | some l =>
        cases hm : denL ρ j vc with
        | none => rw [hm] at h2; cases h2
        | some m =>
          rw [hl] at h1; cases h1
          rw [hm] at h2; cases h2
          simp only [denL, C.den, E.I, setI_ok 0 xs vc r' l m h3 hl hm]
          split <;> simp [setV, kdSame_eq hk]
    · cases h
  | 0, [], y :: vc, r, vs, us, h, h1, h2 => by simp [setI] at h
  | off + 1, [], vc, r, vs, us, h, h1, h2 => by simp [setI] at h
theorem iteR_ok {j : J} {e : E} {off sz : Nat} {vc : List C} {us : List Value} (hu : denL ρ j vc = some us) (hsz : off + us.length ≤ sz) (h0 : 0 ≤ e.I ρ) : ∀ (n m0 : Nat) (cs ds : List C) (vs : List Value), iteR e off sz vc m0 n cs = some ds → denL ρ j cs = some vs → vs.length = n * sz →
    denL ρ j ds = some (if m0 ≤ (e.I ρ).toNat ∧ (e.I ρ).toNat < m0 + n then setV (((e.I ρ).toNat - m0) * sz + off) vs us else vs)
  | 0, m0, cs, ds, vs, h, hd, hl => by
    cases h
    rw [if_neg (by omega), hd]
  | n + 1, m0, cs, ds, vs, h, hd, hl => by
    simp only [iteR] at h
    split at h
    · rename_i a b h1 h2
      cases h
      have e1 := setI_ok off _ _ _ _ _ h1 (denL_take hd sz) hu
      have hl2 : (vs.drop sz).length = n * sz := by rw [List.length_drop, hl, Nat.succ_mul]; omega
      have e2 := iteR_ok hu hsz h0 n (m0 + 1) _ _ _ h2 (denL_drop hd sz) hl2
      have hge : sz ≤ vs.length := by rw [hl, Nat.succ_mul]; omega
      rw [denL_append e1 e2]
      congr 1
      have hB : (E.eq e (.lit (m0 : Int))).B ρ = decide ((e.I ρ).toNat = m0) := by
        simp only [E.B, E.I]
        rw [Bool.eq_iff_iff]
        simp only [beq_iff_eq, decide_eq_true_eq]
        omega
      rw [hB]
      generalize (e.I ρ).toNat = M
      apply List.ext_getElem?
      intro p
      have tl : (vs.take sz).length = sz := by rw [List.length_take]; omega
      by_cases hM : M = m0
      · subst hM
        rw [if_pos (by simp), if_neg (by omega), if_pos (by omega), Nat.sub_self, Nat.zero_mul, Nat.zero_add, setV_get]
        by_cases hp : p < sz
        · rw [List.getElem?_append_left (by rw [setV_length, tl]; exact hp), setV_get, tl, List.getElem?_take, if_pos hp]
          by_cases hq : off ≤ p ∧ p < off + us.length ∧ p < sz
          · rw [if_pos hq, if_pos (by omega)]
          · rw [if_neg hq, if_neg (by omega)]
        · rw [List.getElem?_append_right (by rw [setV_length, tl]; omega), setV_length, tl, List.getElem?_drop, if_neg (by omega)]
          congr 1; omega
      · rw [if_neg (by simpa using hM)]
        by_cases hr : m0 + 1 ≤ M ∧ M < m0 + 1 + n
        · rw [if_pos hr, if_pos (by omega), setV_get]
          have hmul : (M - m0) * sz = sz + (M - (m0 + 1)) * sz := by
            rw [show M - m0 = (M - (m0 + 1)) + 1 by omega, Nat.succ_mul]; omega
          by_cases hp : p < sz
          · rw [List.getElem?_append_left (by rw [tl]; exact hp), List.getElem?_take, if_pos hp, if_neg (by omega)]
          · rw [List.getElem?_append_right (by rw [tl]; omega), tl, setV_get, List.getElem?_drop, hl2]
            have hps : sz + (p - sz) = p := by omega
            rw [hps]
            have hlen : vs.length = sz + n * sz := by rw [hl, Nat.succ_mul]; omega
            by_cases hq : (M - (m0 + 1)) * sz + off ≤ p - sz ∧ p - sz < (M - (m0 + 1)) * sz + off + us.length ∧ p - sz < n * sz
            · rw [if_pos hq, if_pos (by omega)]
              congr 1; omega
            · rw [if_neg hq, if_neg (by omega)]
        · rw [if_neg hr, if_neg (by omega), List.take_append_drop]
    · cases h
/-- Values laid into an array's cells. -/
def putA : Nat → List Value → Array Value → Array Value
  | _, [], c => c
  | o, v :: vs, c => putA (o + 1) vs (c.setIfInBounds o v)
theorem putA_get : ∀ (vs : List Value) (o : Nat) (c : Array Value) (i : Nat), (putA o vs c)[i]? = if o ≤ i ∧ i < o + vs.length ∧ i < c.size then vs[i - o]? else c[i]?
  | [], o, c, i => by rw [if_neg (by simp only [List.length_nil]; omega)]; rfl
  | v :: vs, o, c, i => by
    simp only [putA, putA_get vs (o + 1), Array.size_setIfInBounds, List.length_cons]
    rcases Nat.lt_trichotomy i o with h | h | h
    · rw [if_neg (by omega), if_neg (by omega), Array.getElem?_setIfInBounds, if_neg (by omega)]
    · subst h
      rw [if_neg (by omega), Array.getElem?_setIfInBounds, if_pos rfl]
      by_cases hs : i < c.size
      · rw [if_pos hs, if_pos (by omega)]; simp
      · rw [if_neg hs, if_neg (by omega), Array.getElem?_eq_none (by omega)]
    · by_cases hq : o + 1 ≤ i ∧ i < o + 1 + vs.length ∧ i < c.size
      · rw [if_pos hq, if_pos (by omega), show i - o = (i - (o + 1)) + 1 by omega]; rfl
      · rw [if_neg hq, if_neg (by omega), Array.getElem?_setIfInBounds, if_neg (by omega)]
theorem writes_map {j : J} {b kk : Nat} (hk : j.b b = some kk) : ∀ (cs : List C) (o : Nat) (vs : List Value) (w : World), denL ρ j cs = some vs → Writes ρ j (rowWr b o cs) w (mapBlock w kk (putA o vs)) ∧ ∀ w', Writes ρ j (rowWr b o cs) w w' → w' = mapBlock w kk (putA o vs)
  | [], o, vs, w, hd => by
    cases hd
    have e : mapBlock w kk (putA o []) = w := Go.Sort.mapBlock_id w kk _ (fun c e fr _ => rfl)
    rw [e]
    exact ⟨rfl, fun w' h => h⟩
  | c :: cs, o, vs, w, hd => by
    simp only [denL] at hd
    cases hc : c.den ρ j with
    | none => rw [hc] at hd; cases hd
    | some v =>
      cases hl : denL ρ j cs with
      | none => rw [hc, hl] at hd; cases hd
      | some l =>
        rw [hc, hl] at hd; cases hd
        obtain ⟨i1, i2⟩ := writes_map hk cs (o + 1) l (w.setCell ⟨kk, o, none⟩ v) hl
        have e : mapBlock (w.setCell ⟨kk, o, none⟩ v) kk (putA (o + 1) l) = mapBlock w kk (putA o (v :: l)) := by
          rw [setCell_eq, mapBlock_mapBlock]
          rfl
        rw [e] at i1 i2
        refine ⟨⟨kk, v, hk, hc, i1⟩, ?_⟩
        rintro w' ⟨k2, v2, g1, g2, g3⟩
        rw [hk] at g1; cases g1
        rw [hc] at g2; cases g2
        exact i2 w' g3
theorem rowRd_mem {b : Nat} : ∀ (n o p : Nat), p < n → (b, o + p) ∈ rowRd b o n
  | 0, _, _, h => absurd h (by omega)
  | n + 1, o, 0, _ => by simp [rowRd]
  | n + 1, o, p + 1, h => by
    simp only [rowRd, List.mem_cons]
    have := rowRd_mem (b := b) n (o + 1) p (by omega)
    rw [show o + 1 + p = o + (p + 1) by omega] at this
    exact .inr this
theorem rowWr_mem {b : Nat} : ∀ (cs : List C) (o p : Nat) (c : C), cs[p]? = some c → (b, o + p, c) ∈ rowWr b o cs
  | [], _, _, _, h => by simp at h
  | x :: cs, o, 0, c, h => by simp at h; subst h; simp [rowWr]
  | x :: cs, o, p + 1, c, h => by
    simp only [rowWr, List.mem_cons]
    have := rowWr_mem (b := b) cs (o + 1) p c (by simpa using h)
    rw [show o + 1 + p = o + (p + 1) by omega] at this
    exact .inr this
theorem rowWr_of {b : Nat} : ∀ (cs : List C) (o : Nat) (q : Nat × Nat × C), q ∈ rowWr b o cs → q.1 = b ∧ ∃ p, p < cs.length ∧ q.2.1 = o + p
  | [], _, q, h => by simp [rowWr] at h
  | x :: cs, o, q, h => by
    simp only [rowWr, List.mem_cons] at h
    rcases h with rfl | h
    · exact ⟨rfl, 0, by simp, rfl⟩
    · obtain ⟨h1, p, h2, h3⟩ := rowWr_of cs (o + 1) q h
      exact ⟨h1, p + 1, by simp; omega, by omega⟩
theorem snd_storeS (hT : ∀ t i, (t, i) ∈ cx.ty → TIok P t i) {t : Nat} {x y : Operand} {kw : Kw} (hop : o.op = .store t x y) {b o0 n sz off : Nat} {e : E} (hx : vw.ev x = some (.one (.pe b o0 n sz e off))) {v : V} (hy : vw.ev y = some v) {i : TI} (hi : lookN t cx.ty = some i) {cs : List C} (hcs : vw.row b o0 (n * sz) = some cs)
    (hf : v.flat = true) (hn : v.cells.length = i.size) (hsz : off + i.size ≤ sz) (hcl : cs.length = n * sz)
    (h : (decK (inR e n) (fun ok kw => if ok then
            (match iteR e off sz v.cells 0 n cs with
            | some ds => if ds.all C.solid && (cs.all C.solid && v.cells.all C.solid) then k { val := .one .undef, rd := rowRd b o0 (n * sz), wr := rowWr b o0 ds } kw else .stuck 165
            | none => .stuck 166)
            else .stuck 167) kw).holds sp G ρ I) (hg : Good sp cx.sm ρ kw) : Sound P sp ρ G I base cx vw o k kw := by
  obtain ⟨kw1, g1, q1, _, l1⟩ := decK_ok _ _ _ h hg
  rw [inR_B] at g1
  split at g1
  · rename_i hr
    rw [Bool.and_eq_true, decide_eq_true_eq, decide_eq_true_eq] at hr
    have ht := hT _ _ (lookN_mem hi)
    have hrow := vw.rowok _ _ _ _ hcs
    split at g1
    · rename_i ds hds
      split at g1
      · rename_i hsol
        simp only [Bool.and_eq_true] at hsol
        refine ⟨_, kw1, g1, q1, l1, fun j a w _ hev hrd hwr _ _ K Q hK => ?_⟩
        obtain ⟨kk, hk, he⟩ := pe_of (hev x (by simp [hop, Op.operands]) _ hx)
        have hd := V.cells_ok (hev y (by simp [hop, Op.operands]) v hy) hf
        obtain ⟨vs, hvs, -⟩ := run_loadCells (P := P) (ρ := ρ) hk (n * sz) o0 cs hrow w hrd ⟨kk, o0, none⟩ 0 #[] (fun m => by rw [add_none]; simp)
        have hul : (a.eval y).cells.toList.length = i.size := by rw [denL_length hd, hn]
        have hvl : vs.length = n * sz := by rw [denL_length hvs, hcl]
        have hnew := iteR_ok hd (by rw [hul]; exact hsz) hr.1 n 0 cs ds vs hds hvs hvl
        rw [if_pos (by omega), Nat.sub_zero] at hnew
        generalize hM : (e.I ρ).toNat = M at *
        have hMn : M < n := by omega
        have hMs : M * sz + off + i.size ≤ n * sz := by
          have : (M + 1) * sz ≤ n * sz := Nat.mul_le_mul_right sz hMn
          rw [Nat.succ_mul] at this
          omega
        -- old cells
        have old : ∀ p, p < n * sz → w.cell? ⟨kk, o0 + p, none⟩ = vs[p]? := by
          intro p hp
          obtain ⟨hl, hget⟩ := rowOf_get _ _ _ hrow
          obtain ⟨c0, hc0⟩ : ∃ c0, cs[p]? = some c0 := ⟨_, List.getElem?_eq_getElem (by omega)⟩
          obtain ⟨k', v', hk', hv', hcell⟩ := hrd (b, o0 + p) (rowRd_mem _ _ _ hp) c0 (hget _ c0 hc0)
          simp only at hk' hcell
          rw [hk] at hk'; cases hk'
          obtain ⟨v2, hv2, hd2⟩ := denL_get hvs p c0 hc0
          rw [hv'] at hd2; cases hd2
          rw [hcell, hv2]
        have hdl : ds.length = n * sz := by
          have := denL_length hnew
          rw [setV_length] at this
          omega
        have hw2 : WrOk j w (rowWr b (o0 + (M * sz + off)) v.cells) := by
          intro q hq
          obtain ⟨e1, p, e2, e3⟩ := rowWr_of _ _ _ hq
          obtain ⟨c1, hc1⟩ : ∃ c1, ds[M * sz + off + p]? = some c1 := ⟨_, List.getElem?_eq_getElem (by omega)⟩
          obtain ⟨k3, u3, f1, f2, f3⟩ := hwr _ (rowWr_mem ds o0 _ c1 hc1)
          refine ⟨k3, u3, by rw [e1]; exact f1, ?_, ?_⟩
          · rw [e3, Nat.add_assoc]; exact f2
          · rw [e3, Nat.add_assoc]; exact f3
        obtain ⟨w', h1, h2⟩ := run_storeCells (P := P) hk ⟨kk, o0 + (M * sz + off), none⟩ v.cells (o0 + (M * sz + off)) 0 _ w (fun m => by rw [add_none]; simp) hd hsol.2.2 hw2
        have e1 := (writes_map hk v.cells _ _ w hd).2 w' h1
        have e2 := (writes_map hk ds o0 _ w hnew).1
        have e3 : mapBlock w kk (putA (o0 + (M * sz + off)) (a.eval y).cells.toList) = mapBlock w kk (putA o0 (setV (M * sz + off) vs (a.eval y).cells.toList)) := by
          refine mapBlock_congr w kk _ _ fun c ec fr hc => ?_
          have oldc : ∀ p, p < n * sz → c[o0 + p]? = vs[p]? := fun p hp => by
            have := old p hp
            rw [← this]
            simp [World.cell?, hc]
          apply Array.ext_getElem?
          intro q
          rw [putA_get, putA_get, setV_length, hvl]
          by_cases hq : o0 ≤ q ∧ q < o0 + n * sz ∧ q < c.size
          · rw [if_pos hq, setV_get]
            by_cases hq2 : M * sz + off ≤ q - o0 ∧ q - o0 < M * sz + off + (a.eval y).cells.toList.length ∧ q - o0 < vs.length
            · rw [if_pos hq2, if_pos (by omega)]
              congr 1; omega
            · rw [if_neg hq2, if_neg (by omega), ← oldc (q - o0) (by omega)]
              congr 1; omega
          · rw [if_neg hq, if_neg (by omega)]
        rw [e3] at e1
        have hsz' : (a.eval y).cells.size = i.size := by rw [← Array.length_toList]; exact hul
        refine wp_skp (w' := w') ?_ (hK _ j w' rfl ⟨rfl, w, Ext.refl w, by rw [e1]; exact e2⟩)
        simp [execOp, hop, he, Instr.storeAt, Instr.sureAddr, Sem.run_bind, storeVar, ht.size, hsz', h2]
      · exact g1.elim
    · exact g1.elim
  · exact g1.elim
end
end Go.Proofs.Ytgfghplnankgnaa


/- The run of an operation is sound: least and greatest, calls; all kinds together. Nothing of the program is in here. -/
set_option linter.unusedVariables false
set_option linter.unusedSimpArgs false
namespace Go.Proofs.Ytgfghplnankgnaa
open Go.RowKit

section
variable {P : Program} {sp : Spec} {ρ : Env} {G : Env → E → Prop} {I : Nat → List Dt → Prop} {base : Nat} {cx : Cx} {vw : Vw} {o : Oper} {k : Eff → Kw → Tr}

theorem mm_ok {f : E → E → E} {g : Int → Int → Int} (hf : ∀ a b, (f a b).I ρ = g (a.I ρ) (b.I ρ)) {m2 : Value → Value → Sem Value} {k0 : IntKind} (hm : ∀ x y w, (m2 (.int k0 x) (.int k0 y)).run P w = .ok (.int k0 (g x y)) w) {j : J} :
    ∀ (l : List V) (e e' : E) (us : List Value), mmK f k0 e l = some e' → (∀ (i : Nat) x u, l[i]? = some x → us[i]? = some u → x.den ρ j = some u) → us.length = l.length → ∀ w, (us.foldlM m2 (.int k0 (e.I ρ))).run P w = .ok (.int k0 (e'.I ρ)) w
  | [], e, e', us, h, hu, hl, w => by
    cases h
    cases us with
    | nil => simp
    | cons _ _ => cases hl
  | v :: l, e, e', us, h, hu, hl, w => by
    cases us with
    | nil => cases hl
    | cons u us =>
      cases v with
      | one c =>
        cases c with
        | int kd x =>
          simp only [mmK] at h
          split at h
          · rename_i hk
            have := kdSame_eq hk
            subst this
            have h1 := one_int (hu 0 _ u rfl rfl)
            subst h1
            have h2 := mm_ok hf hm l (f e x) e' us h (fun i y u hy hu' => hu (i + 1) y u (by simpa using hy) (by simpa using hu')) (by simpa using hl) w
            rw [hf] at h2
            simp only [List.foldlM_cons, Sem.run_bind, hm, Result.andThen_ok, h2]
          · cases h
        | _ => simp [mmK] at h
      | _ => simp [mmK] at h

theorem map_toList {c : Call} {a : Act} : (c.args.map a.eval).toList = c.args.toList.map a.eval := Array.toList_map ..

theorem snd_mm (mx : Bool) {c : Call} {kw : Kw} (hop : o.op = .call c) (hc : c.callee = .builtin (if mx then .max else .min)) {k0 : IntKind} {e e' : E} {l : List V} (hl : evL vw.ev c.args.toList = some (.one (.int k0 e) :: l)) (he : mmK (if mx then mkMax else mkMin) k0 e l = some e')
    (h : (k { val := .one (.int k0 e') } kw).holds sp G ρ I) (hg : Good sp cx.sm ρ kw) : Sound P sp ρ G I base cx vw o k kw := by
  refine ⟨_, kw, h, hg, .refl _, OpOk.pure fun j a w _ hev _ _ _ => ⟨.int k0 (e'.I ρ), rfl, ?_⟩⟩
  obtain ⟨h1, h2⟩ := evL_ok (j := j) (a := a) hl (fun x hx => hev x (by simp [hop, Op.operands, Call.operands]; exact .inr (by simpa using hx)))
  obtain ⟨u, us, hus⟩ : ∃ u us, c.args.toList.map a.eval = u :: us := by
    cases hm : c.args.toList.map a.eval with
    | nil => rw [hm] at h2; cases h2
    | cons u us => exact ⟨u, us, rfl⟩
  rw [hus] at h1 h2
  have hu := one_int (h1 0 _ u rfl rfl)
  subst hu
  have hlist : (c.args.map a.eval).toList = .int k0 (e.I ρ) :: us := by rw [map_toList, hus]
  cases mx with
  | true =>
    have h3 := mm_ok (P := P) (ρ := ρ) (f := mkMax) (g := max) (mkMax_I ρ) (m2 := Builtin.max2) (k0 := k0) (fun x y w => by simp [Builtin.max2, min_max_int.2]) l e e' us (by simpa using he) (fun i x u hx hu => h1 (i + 1) x u (by simpa using hx) (by simpa using hu)) (by simpa using h2) w
    simp only [execOp, hop, resolve, hc, if_true, Sem.run_bind, Sem.run_pure, Result.andThen_ok, invoke, builtin, Builtin.max_, hlist, h3]
  | false =>
    have h3 := mm_ok (P := P) (ρ := ρ) (f := mkMin) (g := min) (mkMin_I ρ) (m2 := Builtin.min2) (k0 := k0) (fun x y w => by simp [Builtin.min2, min_max_int.1]) l e e' us (by simpa using he) (fun i x u hx hu => h1 (i + 1) x u (by simpa using hx) (by simpa using hu)) (by simpa using h2) w
    simp only [execOp, hop, resolve, hc, Bool.false_eq_true, if_false, Sem.run_bind, Sem.run_pure, Result.andThen_ok, invoke, builtin, Builtin.min_, hlist, h3]


/-! ### Calls -/
theorem Vk_app {vk : List VK} {ks : List CK} (hv : Vk ρ vk) (hr : (∀ (n : Nat) k, ks[n]? = some (.int k) → inK k (ρ.i (vk.length + n)) = true) ∧ ∀ (n : Nat) k ty, ks[n]? = some (.sl k ty) → RowsIn k (ρ.l (vk.length + n))) : Vk ρ (vk ++ ks.map ckKind) := by
  constructor
  · intro n kd h
    rcases Nat.lt_or_ge n vk.length with hlt | hge
    · rw [List.getElem?_append_left hlt] at h
      exact hv.i n kd h
    · rw [List.getElem?_append_right hge, List.getElem?_map, Option.map_eq_some_iff] at h
      obtain ⟨c, hc, hk⟩ := h
      cases c <;> simp only [ckKind] at hk <;> first | cases hk | skip
      have := hr.1 _ _ hc
      rwa [show vk.length + (n - vk.length) = n by omega] at this
  · intro n kd h
    rcases Nat.lt_or_ge n vk.length with hlt | hge
    · rw [List.getElem?_append_left hlt] at h
      exact hv.l n kd h
    · rw [List.getElem?_append_right hge, List.getElem?_map, Option.map_eq_some_iff] at h
      obtain ⟨c, hc, hk⟩ := h
      cases c <;> simp only [ckKind] at hk <;> first | cases hk | skip
      have := hr.2 _ _ _ hc
      rwa [show vk.length + (n - vk.length) = n by omega] at this

/-- Arguments in range, without a world. -/
theorem encC_in {vk : List VK} (hv : Vk ρ vk) {rw : Nat → Option RowOb} {k : CK} {c : C} {t e : E} (h : encC vk rw k c t = some e) : ckIn k (e.D ρ) (t.D ρ) := by
  unfold encC at h
  split at h
  · split at h
    · rename_i hk
      cases h
      simp only [Bool.and_eq_true] at hk
      exact ⟨_, rfl, E.rng_ok hv _ hk.2⟩
    · cases h
  · cases h; exact ⟨_, rfl⟩
  · split at h
    · cases h; exact rfl
    · cases h
  · split at h
    · cases h; exact rfl
    · cases h
  · rw [Option.map_eq_some_iff] at h
    obtain ⟨l, hl, rfl⟩ := h
    refine ⟨_, rfl, ?_⟩
    unfold rowAt at hl
    split at hl
    · split at hl
      · split at hl
        · rename_i hq
          simp only [Bool.and_eq_true] at hq
          cases hl
          exact E.lok_ok hv _ hq.2.2
        · cases hl
      · cases hl
    · cases hl; intro r hr; cases hr
    · cases hl
  · cases h; exact rfl
  · cases h
theorem encL1_in {vk : List VK} (hv : Vk ρ vk) {rw : Nat → Option RowOb} : ∀ {ks : List CK} {cs : List C} {t e : E}, encL1 vk rw ks cs t = some e → cksIn ks (e.D ρ) (t.D ρ)
  | [], [], t, e, h => by cases h; exact rfl
  | k :: ks, c :: cs, t, e, h => by
    simp only [encL1, Option.bind_eq_some_iff] at h
    obtain ⟨e', h1, h2⟩ := h
    exact ⟨_, encC_in hv h2, encL1_in hv h1⟩
theorem encL_in {vk : List VK} (hv : Vk ρ vk) {rw : Nat → Option RowOb} {ks : List CK} {cs : List C} {t e : E} (h : encL vk rw ks cs t = some e) : cksIn ks (e.D ρ) (t.D ρ) := encL1_in hv (encL_some h)
theorem encA_in {vk : List VK} (hv : Vk ρ vk) : ∀ {ss : List Sh} {xs : List V} {e : E}, encA vk vw ss xs = some e → argIn ss (e.D ρ)
  | [], [], e, h => by cases h; exact rfl
  | s :: ss, x :: xs, e, h => by
    simp only [encA, Option.bind_eq_some_iff] at h
    obtain ⟨e', h1, h2⟩ := h
    refine ⟨e'.D ρ, ?_, encA_in hv h1⟩
    unfold encV at h2
    split at h2
    · exact encL_in hv h2
    · exact ⟨_, encC_in hv h2, rfl⟩
    · split at h2
      · rw [Option.bind_eq_some_iff] at h2
        obtain ⟨cs, _, h2⟩ := h2
        exact encL_in hv h2
      · cases h2
    · rw [Option.bind_eq_some_iff] at h2
      obtain ⟨cs, _, h2⟩ := h2
      exact encL_in hv h2
    · cases h2

/-- Arguments as they lie in a world. -/
theorem encC_ok {vk : List VK} (hv : Vk ρ vk) {j : J} {w : World} {k : CK} {c : C} {t e : E} (hrr : RrOk ρ base j w vw.rw (slIds [c])) (h : encC vk vw.sw k c t = some e) : ∃ v, c.den ρ j = some v ∧ ckRel w k (e.D ρ) v (t.D ρ) := by
  unfold encC at h
  split at h
  · split at h
    · rename_i hk
      cases h
      simp only [Bool.and_eq_true] at hk
      refine ⟨_, rfl, _, rfl, ?_, E.rng_ok hv _ hk.2⟩
      rw [kdSame_eq hk.1]
    · cases h
  · cases h; exact ⟨_, rfl, _, rfl, rfl⟩
  · split at h
    · rename_i hg
      cases h
      refine ⟨_, rfl, rfl, ?_⟩
      rw [Nat.eq_of_beq_eq_true hg]
    · cases h
  · split at h
    · rename_i hg
      cases h
      simp only [Bool.and_eq_true] at hg
      refine ⟨_, rfl, rfl, ?_⟩
      rw [kdSame_eq hg.1, zSame_eq hg.2]
      rfl
    · cases h
  · rw [Option.map_eq_some_iff] at h
    obtain ⟨l, hl, rfl⟩ := h
    unfold rowAt at hl
    split at hl
    · rename_i id
      split at hl
      · rename_i r hr
        split at hl
        · rename_i hq
          simp only [Bool.and_eq_true] at hq
          cases hl
          obtain ⟨s, hs, hok⟩ := hrr.sl id (by simp [slIds]) r hr
          have hks := ceSame_eq hq.1
          have hrd := hok.rd
          have hrows := hok.rows
          rw [hks] at hrd hrows
          exact ⟨s.v, by simp [C.den, hs], _, s, rfl, rfl, hok.n, hrd, hrows, fun k hk => hok.lt k (blk_mono hk)⟩
        · cases hl
      · cases hl
    · cases hl
      refine ⟨_, rfl, [], ⟨none, 0, 0⟩, rfl, rfl, rfl, ⟨by simp [flat], Nat.le_refl _, by simp [maxLen], fun _ => ⟨rfl, rfl⟩, fun a ha => (by cases ha)⟩, ⟨fun r hr => (by cases hr), by simp⟩, fun k hk => (by cases hk)⟩
    · cases hl
  · cases h; exact ⟨_, rfl, rfl, rfl⟩
  · cases h
theorem RrOk.mono {j : J} {w : World} {rw : Nat → Option RowOb} {l l' : List Nat} (h : RrOk ρ base j w rw l) (hs : ∀ x ∈ l', x ∈ l) : RrOk ρ base j w rw l' := fun id hid r hr => h id (hs id hid) r hr
theorem slIds_cons {c : C} {cs : List C} : (∀ x ∈ slIds [c], x ∈ slIds (c :: cs)) ∧ ∀ x ∈ slIds cs, x ∈ slIds (c :: cs) := by
  cases c <;> simp [slIds] <;> intro x hx <;> exact .inr hx
theorem encL1_ok {vk : List VK} (hv : Vk ρ vk) {j : J} {w : World} : ∀ {ks : List CK} {cs : List C} {t e : E}, RrOk ρ base j w vw.rw (slIds cs) → encL1 vk vw.sw ks cs t = some e → ∃ vs, denL ρ j cs = some vs ∧ cksRel w ks (e.D ρ) vs (t.D ρ)
  | [], [], t, e, _, h => by cases h; exact ⟨[], rfl, rfl, rfl⟩
  | k :: ks, c :: cs, t, e, hrr, h => by
    simp only [encL1, Option.bind_eq_some_iff] at h
    obtain ⟨e', h1, h2⟩ := h
    obtain ⟨vs, h3, h4⟩ := encL1_ok hv (hrr.mono slIds_cons.2) h1
    obtain ⟨v, h5, h6⟩ := encC_ok hv (hrr.mono slIds_cons.1) h2
    exact ⟨v :: vs, by simp [denL, h3, h5], v, vs, _, rfl, h6, h4⟩
theorem encL_ok {vk : List VK} (hv : Vk ρ vk) {j : J} {w : World} {ks : List CK} {cs : List C} {t e : E} (hrr : RrOk ρ base j w vw.rw (slIds cs)) (h : encL vk vw.sw ks cs t = some e) : ∃ vs, denL ρ j cs = some vs ∧ cksRel w ks (e.D ρ) vs (t.D ρ) := encL1_ok hv hrr (encL_some h)
theorem encA_ok {vk : List VK} (hv : Vk ρ vk) {j : J} {w : World} : ∀ {ss : List Sh} {xs : List V} {e : E}, RrOk ρ base j w vw.rw (argRr vw ss xs) → RdOk ρ j w vw.ld (argRd ss xs) → FbOk ρ j w vw.fb → encA vk vw ss xs = some e → ∀ us : List Value, (∀ (i : Nat) x u, xs[i]? = some x → us[i]? = some u → x.den ρ j = some u) → us.length = xs.length → shRel w ss (e.D ρ) us
  | [], [], e, _, _, _, h, us, hu, hl => by
    cases h
    cases us with
    | nil => exact ⟨rfl, rfl⟩
    | cons _ _ => cases hl
  | s :: ss, x :: xs, e, hrr, hrd, hfb, h, us, hu, hl => by
    simp only [encA, Option.bind_eq_some_iff] at h
    obtain ⟨e', h1, h2⟩ := h
    cases us with
    | nil => cases hl
    | cons u us =>
      have h7 := hu 0 x u rfl rfl
      have tail : RrOk ρ base j w vw.rw (argRr vw ss xs) → RdOk ρ j w vw.ld (argRd ss xs) → shRel w ss (e'.D ρ) us := fun a b =>
        encA_ok hv a b hfb h1 us (fun i x u hx hu' => hu (i + 1) x u (by simpa using hx) (by simpa using hu')) (by simpa using hl)
      unfold encV at h2
      split at h2
      · rename_i ks cs
        have hrr' : RrOk ρ base j w vw.rw (slIds cs ++ argRr vw ss xs) := hrr
        obtain ⟨vs, h3, h4⟩ := encL_ok hv (hrr'.mono (fun x hx => List.mem_append_left _ hx)) h2
        simp only [V.den, h3, Option.map_some, Option.some.injEq] at h7
        exact ⟨vs, us, _, by rw [h7], h4, tail (hrr'.mono (fun x hx => List.mem_append_right _ hx)) hrd⟩
      · rename_i kc c
        have hsl : ∀ x ∈ slIds [c] ++ argRr vw ss xs, x ∈ argRr vw (.one kc :: ss) (.one c :: xs) := by
          intro x hx
          cases c <;> exact hx
        have hrr' := hrr.mono hsl
        obtain ⟨v, h3, h4⟩ := encC_ok hv (hrr'.mono (fun x hx => List.mem_append_left _ hx)) h2
        have h7' : c.den ρ j = some u := h7
        rw [h3] at h7'
        cases h7'
        have hrd' : RdOk ρ j w vw.ld (argRd ss xs) := by
          intro p hp
          refine hrd p ?_
          cases c <;> exact hp
        exact ⟨_, us, _, rfl, h4, tail (hrr'.mono (fun x hx => List.mem_append_right _ hx)) hrd'⟩
      · rename_i ks b
        split at h2
        · rename_i hpos
          rw [Option.bind_eq_some_iff] at h2
          obtain ⟨cs, hcs, h2⟩ := h2
          have hrr' : RrOk ρ base j w vw.rw (slIds cs ++ argRr vw ss xs) := by
            have : argRr vw (.ptr ks :: ss) (.one (.ptr b 0) :: xs) = slIds cs ++ argRr vw ss xs := by simp only [argRr, hcs]
            rw [← this]; exact hrr
          have hrd1 : RdOk ρ j w vw.ld (rowRd b 0 ks.length) := fun p hp => hrd p (List.mem_append_left _ hp)
          have hrd2 : RdOk ρ j w vw.ld (argRd ss xs) := fun p hp => hrd p (List.mem_append_right _ hp)
          obtain ⟨vs, h3, h4⟩ := encL_ok hv (hrr'.mono (fun x hx => List.mem_append_left _ hx)) h2
          obtain ⟨kk, hk, rfl⟩ := ptr_of h7
          obtain ⟨hlen, hget⟩ := rowOf_get _ _ _ (vw.rowok _ _ _ _ hcs)
          have mem : ∀ (n o m : Nat), m < n → (b, o + m) ∈ rowRd b o n := by
            intro n
            induction n with
            | zero => intro o m hm; omega
            | succ n ih =>
              intro o m hm
              cases m with
              | zero => simp [rowRd]
              | succ m => simp only [rowRd, List.mem_cons]; right; rw [show o + (m + 1) = o + 1 + m by omega]; exact ih (o + 1) m (by omega)
          have cell : ∀ o u, vs[o]? = some u → w.cell? ⟨kk, o, none⟩ = some u := by
            intro o u hou
            have hlt : o < cs.length := by rw [← denL_length h3]; exact (List.getElem?_eq_some_iff.1 hou).1
            have hc := List.getElem?_eq_getElem hlt
            have hld := hget o _ hc
            obtain ⟨k', v, g1, g2, g3⟩ := hrd1 (b, 0 + o) (mem _ 0 o (by omega)) _ hld
            simp only at g1 g3
            rw [hk] at g1; cases g1
            obtain ⟨u', hu', hd'⟩ := denL_get h3 o _ hc
            rw [hou] at hu'; cases hu'
            rw [g2] at hd'; cases hd'
            rw [Nat.zero_add] at g3
            exact g3
          have hlt : kk < w.heap.size := by
            have h0 : 0 < vs.length := by rw [denL_length h3]; omega
            exact World.block_lt_of_cell? w ⟨kk, 0, none⟩ (cell 0 vs[0] (List.getElem?_eq_getElem h0))
          exact ⟨kk, vs, us, _, rfl, h4, hlt, cell, tail (hrr'.mono (fun x hx => List.mem_append_right _ hx)) hrd2⟩
        · cases h2
      · rename_i ks b
        rw [Option.bind_eq_some_iff] at h2
        obtain ⟨cs, hcs, h2⟩ := h2
        have hrr' : RrOk ρ base j w vw.rw (slIds cs ++ argRr vw ss xs) := by
          have : argRr vw (.ptr ks :: ss) (.one (.fp b 0) :: xs) = slIds cs ++ argRr vw ss xs := by simp only [argRr, hcs]
          rw [← this]; exact hrr
        obtain ⟨vs, h3, h4⟩ := encL_ok hv (hrr'.mono (fun x hx => List.mem_append_left _ hx)) h2
        obtain ⟨kk, hk, rfl⟩ := fp_of h7
        obtain ⟨k', vs', g1, g2, g3, g4⟩ := hfb b cs hcs
        rw [hk] at g1; cases g1
        rw [h3] at g3; cases g3
        exact ⟨kk, vs, us, _, rfl, h4, g2, g4, tail (hrr'.mono (fun x hx => List.mem_append_right _ hx)) hrd⟩
      · cases h2

theorem resRows_length (v0 : Nat) : ∀ (ks : List CK) (n : Nat), (resRows v0 n ks).length = (ks.filter CK.isSl).length
  | [], _ => rfl
  | k :: ks, n => by
    have ih := resRows_length v0 ks (n + 1)
    cases k <;> simp [resRows, CK.isSl, List.filter_cons, ih]
theorem resRows_own (v0 : Nat) : ∀ (ks : List CK) (n i : Nat) (r : RowOb), (resRows v0 n ks)[i]? = some r → r.own = true
  | [], _, i, r, h => by simp [resRows] at h
  | k :: ks, n, i, r, h => by
    cases k with
    | sl a b =>
      cases i with
      | zero => simp [resRows] at h; rw [← h]
      | succ i => exact resRows_own v0 ks (n + 1) i r (by simpa [resRows] using h)
    | _ => exact resRows_own v0 ks (n + 1) i r h

theorem resRows_kd (v0 : Nat) : ∀ (ks : List CK) (n i : Nat) (r : RowOb), (resRows v0 n ks)[i]? = some r → r.kd = .sl
  | [], _, i, r, h => by simp [resRows] at h
  | k :: ks, n, i, r, h => by
    cases k with
    | sl a b =>
      cases i with
      | zero => simp [resRows] at h; rw [← h]
      | succ i => exact resRows_kd v0 ks (n + 1) i r (by simpa [resRows] using h)
    | _ => exact resRows_kd v0 ks (n + 1) i r h

theorem snd_call (hS : ∀ s ∈ cx.sm, SmOk P sp s) (hkeys : ∀ s ∈ cx.sm, ∀ s' ∈ cx.sm, s.key = s'.key → s = s') {c : Call} {kw : Kw} (hop : o.op = .call c) {f : Operand} (hc : c.callee = .value f) {g : Nat} (hf : vw.ev f = some (.one (.fn g))) {args : List V} (hl : evL vw.ev c.args.toList = some args)
    (h : (callK cx vw g args kw k).holds sp G ρ I) (hg : Good sp cx.sm ρ kw) : Sound P sp ρ G I base cx vw o k kw := by
  unfold callK at h
  split at h
  · exact h.elim
  · rename_i s e hfind
    obtain ⟨hs, hsf, henc⟩ := findSm_ok hfind
    have ok := hS s hs
    have main : ∀ v0 kw', KwGe kw' kw → sp.pre s.key (e.D ρ) → eqs ρ (sp.F s.key (e.D ρ)) v0 0 s.ks → (k { val := resV s v0 vw.nid, rd := argRd s.args args, rr := argRr vw s.args args, re := .mk (resRows v0 0 s.ks) } kw').holds sp G ρ I → Good sp cx.sm ρ kw' → Sound P sp ρ G I base cx vw o k kw := by
      intro v0 kw' hlv hpre heq hh hg'
      refine ⟨_, kw', hh, hg', hlv, fun j a w hb hev hrd hwr hrr hfb K Q hK => ?_⟩
      obtain ⟨h1, h2⟩ := evL_ok (j := j) (a := a) hl (fun x hx => hev x (by simp [hop, Op.operands, Call.operands]; exact .inr (by simpa using hx)))
      have h3 := encA_ok hg.vk hrr hrd hfb henc _ h1 h2
      have h4 := hev f (by simp [hop, Op.operands, Call.operands, hc]) _ hf
      have h5 : a.eval f = .func (.func g) #[] #[] := (Option.some.inj h4).symm
      have h7 : c.args.map a.eval = (c.args.toList.map a.eval).toArray := by rw [← map_toList]
      have h6 : (execOp a.eval o).run P w = (callFunc s.f (c.args.toList.map a.eval).toArray).run P w := by
        rw [hsf, ← h7]
        simp only [execOp, hop, resolve, hc, h5, Deferred.ofValue, Sem.run_bind, Sem.run_pure, Result.andThen_ok, invoke, Array.empty_append, Array.append_empty]
      have fin : ∀ v w', RetOk s.res s.tup w w' (sp.F s.key (e.D ρ)) v → K (a.put o.dst v) w' := by
        intro v w' hkk
        obtain ⟨hx, _, svs, hsl, hden, hrows, hdis⟩ := hkk
        refine hK v (j.putL vw.nid svs) w' (hden ρ v0 vw.nid _ heq (fun i u hu => ?_)) ⟨hx, svs, by rw [hsl, resRows_length]; rfl, fun i u r hu hr => ?_, hdis, rfl⟩
        · simp [J.putL, hu]
        · have ho := hrows ρ v0 heq i u r hu hr
          exact ⟨RowOk.mk_own (resRows_kd v0 _ _ _ _ hr) ho.n ho.rows ho.pos ho.own, resRows_own v0 _ _ _ _ hr⟩
      rcases ok.calls _ _ w h3 hpre with ⟨v, w', hr, hkk⟩ | ⟨hent, hcalls⟩
      · rw [hr] at h6
        exact wp_val h6 (fin v w' hkk)
      · unfold Oper.wp
        rw [h6, hent]
        show Calls P s.f _ w _
        refine hcalls.mono ?_
        rintro e' w' ⟨v, rfl, hkk⟩
        exact fin v w' hkk
    split at h
    · rename_i v0 hlog
      obtain ⟨s', hs', hk', hpre, heq⟩ := hg.log _ (findLog_ok hlog)
      have := hkeys s' hs' s hs hk'
      subst this
      exact main v0 kw (.refl _) hpre heq h hg
    · obtain ⟨hpre, heq, h⟩ := h
      refine main kw.vk.length { kw with log := (s.key, e, kw.vk.length) :: kw.log, vk := kw.vk ++ s.ks.map ckKind } ⟨rfl, by simp⟩ hpre heq h ⟨hg.pc, ?_, ?_⟩
      · exact Vk_app hg.vk (ok.rng _ (encA_in hg.vk henc) hpre ρ _ heq)
      · intro p hp
        rcases List.mem_cons.1 hp with rfl | hp
        · exact ⟨s, hs, rfl, hpre, heq⟩
        · exact hg.log p hp

theorem snd_pick {c x y : Operand} {kw : Kw} (hop : o.op = .pick c x y) {e : E} {u v : V} (hc : vw.ev c = some (.one (.bool e))) (hx : vw.ev x = some u) (hy : vw.ev y = some v)
    (h : (decK e (fun b kw => k { val := if b then u else v } kw) kw).holds sp G ρ I) (hg : Good sp cx.sm ρ kw) : Sound P sp ρ G I base cx vw o k kw := by
  obtain ⟨kw', h1, g1, _, l1⟩ := decK_ok _ _ _ h hg
  refine ⟨_, kw', h1, g1, l1, OpOk.pure fun j a w _ hev _ _ _ => ⟨if e.B ρ then a.eval x else a.eval y, ?_, ?_⟩⟩
  · have h2 := hev x (by simp [hop, Op.operands]) _ hx
    have h3 := hev y (by simp [hop, Op.operands]) _ hy
    cases e.B ρ
    · exact h3
    · exact h2
  · have h2 := one_bool (hev c (by simp [hop, Op.operands]) _ hc)
    simp [execOp, hop, h2, asBool, Sem.run_bind]

theorem placesOf_ok (hT : ∀ t i, (t, i) ∈ cx.ty → TIok P t i) : ∀ (fs : List Field) (l pl : List (Nat × Nat)), fs.map (fun f => (f.offset, f.type)) = l → placesOf cx.ty l = some pl → ∀ w, (fs.mapM (m := Sem) fun f => do pure (f.offset, ← sizeOf f.type)).run P w = .ok pl w
  | [], l, pl, hl, h, w => by subst hl; cases h; simp
  | f :: fs, l, pl, hl, h, w => by
    subst hl
    simp only [List.map_cons, placesOf] at h
    split at h
    · rename_i i r hi hr
      cases h
      have := (hT _ _ (lookN_mem hi)).size
      rw [List.mapM_cons]
      simp only [Sem.run_bind, this, Result.andThen_ok, Sem.run_pure]
      rw [placesOf_ok hT fs _ r rfl hr w]
      simp
    · cases h

theorem snd_build (hT : ∀ t i, (t, i) ∈ cx.ty → TIok P t i) {t : Nat} {ps : Array (Nat × Operand)} {kw : Kw} (hop : o.op = .build t ps) {parts : List (Nat × V)} (hps : evP vw.ev ps.toList = some parts) {v : V} (hv : buildV cx t parts = some v)
    (h : (k { val := v } kw).holds sp G ρ I) (hg : Good sp cx.sm ρ kw) : Sound P sp ρ G I base cx vw o k kw := by
  refine ⟨_, kw, h, hg, .refl _, OpOk.pure fun j a w _ hev _ _ _ => ?_⟩
  obtain ⟨h1, h2⟩ := evP_ok (a := a) (j := j) hps (fun x hx => hev x (by
    simp only [hop, Op.operands]
    simpa using hx))
  have h3 : (ps.map fun p => (p.1, a.eval p.2)).toList = ps.toList.map fun p => (p.1, a.eval p.2) := Array.toList_map ..
  have hx : execOp a.eval o = (do let v ← Instr.build t (ps.map fun p => (p.1, a.eval p.2)); pure (.value v)) := by simp only [execOp, hop]
  unfold buildV at hv
  split at hv
  · rename_i i hi
    have ht := hT _ _ (lookN_mem hi)
    obtain ⟨z, hz, hzd⟩ := ht.zero
    split at hv
    · rename_i n et ha
      split at hv
      · rename_i ie hie
        rw [Option.map_eq_some_iff] at hv
        obtain ⟨cs, hcs, rfl⟩ := hv
        obtain ⟨cells, h4, h5⟩ := fill_ok (j := j) parts _ cs _ z.cells hcs (hzd ρ j) h1 h2
        refine ⟨.agg cells, by simp [V.den, h5], ?_⟩
        have hs := (hT _ _ (lookN_mem hie)).size
        rw [hx]
        simp [Instr.build, Sem.run_bind, hz, run_underlying (ht.arr n et ha), hs, h3, h4]
      · cases hv
    · rename_i ha
      split at hv
      · rename_i hagg
        split at hv
        · rename_i pl hpl
          rw [Option.map_eq_some_iff] at hv
          obtain ⟨cs, hcs, rfl⟩ := hv
          obtain ⟨cells, h4, h5⟩ := fill_ok (j := j) parts _ cs _ z.cells hcs (hzd ρ j) h1 h2
          refine ⟨.agg cells, by simp [V.den, h5], ?_⟩
          obtain ⟨fs, hfs, hfl⟩ := ht.str hagg ha
          have hm := placesOf_ok hT fs.toList i.fields pl hfl hpl w
          have hm' : (fs.mapM (m := Sem) fun f => do pure (f.offset, ← sizeOf f.type)).run P w = .ok pl.toArray w := by
            rw [Array.mapM_eq_mapM_toList]
            rw [show (List.toArray <$> List.mapM (fun f => (do pure (f.offset, ← sizeOf f.type) : Sem (Nat × Nat))) fs.toList : Sem (Array (Nat × Nat))) = (do let l ← List.mapM (fun f => (do pure (f.offset, ← sizeOf f.type) : Sem (Nat × Nat))) fs.toList; pure l.toArray) from rfl]
            rw [Sem.run_bind, hm]
            rfl
          have h6 : (fun m : Nat => pl.toArray[m]?) = fun m : Nat => pl[m]? := by funext m; simp
          rw [hx]
          simp only [Instr.build, Sem.run_bind, hz, run_underlying hfs, Result.andThen_ok, hm', h3, h6, h4, Sem.run_pure]
        · cases hv
      · cases hv
  · cases hv

/-- All kinds of operations. -/
theorem opK_ok (hT : ∀ t i, (t, i) ∈ cx.ty → TIok P t i) (hS : ∀ s ∈ cx.sm, SmOk P sp s) (hkeys : ∀ s ∈ cx.sm, ∀ s' ∈ cx.sm, s.key = s'.key → s = s') {kw : Kw} (h : (opK cx vw o.op kw k).holds sp G ρ I) (hg : Good sp cx.sm ρ kw) : Sound P sp ρ G I base cx vw o k kw := by
  cases hop : o.op <;> rw [hop] at h <;> simp only [opK] at h
  case move x =>
    split at h
    · rename_i v hv; exact snd_move (.inl hop) hv h hg
    · exact h.elim
  case assign x =>
    split at h
    · rename_i v hv; exact snd_move (.inr hop) hv h hg
    · exact h.elim
  case alloc t =>
    split at h
    · rename_i i hi; exact snd_alloc hT hop hi h hg
    · exact h.elim
  case box t x =>
    split at h
    · rename_i v hv
      split at h
      · rename_i hf; exact snd_box hop hv hf h hg
      · exact h.elim
    · exact h.elim
  case load t x =>
    split at h
    · rename_i b off i hx hi
      split at h
      · rename_i hagg
        split at h
        · rename_i cs hcs; exact snd_load_row hT hop hx hi hagg (vw.rowok _ _ _ _ hcs) h hg
        · exact h.elim
      · rename_i hagg
        split at h
        · rename_i c hc; exact snd_load_one hT hop hx hi hagg hc h hg
        · exact h.elim
    · rename_i b off i hx hi
      split at h
      · rename_i hagg
        split at h
        · rename_i cs hcs
          rw [Option.bind_eq_some_iff] at hcs
          obtain ⟨c0, hc0, hcs⟩ := hcs
          exact snd_loadF_row hT hop hx hi hagg (by have := seg_ok (ld := fun b o => (vw.fb b).bind (·[o]?)) (b := b) (k := 0) hcs (fun i => by simp [hc0]); rwa [Nat.zero_add] at this) h hg
        · exact h.elim
      · rename_i hagg
        split at h
        · rename_i c hc; exact snd_loadF_one hT hop hx hi hagg hc h hg
        · exact h.elim
    · rename_i b o0 n sz e off i hx hi
      split at h
      · rename_i cs hcs
        split at h
        · rename_i hq; exact snd_loadS hT hop hx hi hcs (of_decide_eq_true hq) h hg
        · exact h.elim
      · exact h.elim
    · rename_i id esz e off i hx hi
      split at h
      · rename_i r hr
        split at h
        · rename_i hq
          simp only [Bool.and_eq_true, decide_eq_true_eq] at hq
          exact snd_loadE hT hop hx hi hr (Nat.eq_of_beq_eq_true hq.1) hq.2 h hg
        · exact h.elim
      · exact h.elim
    · exact h.elim
  case store t x y =>
    split at h
    · rename_i b off v i hx hy hi
      split at h
      · rename_i hq
        simp only [Bool.and_eq_true] at hq
        exact snd_store hT hop hx hy hi hq.1 hq.2.1 hq.2.2 h hg
      · exact h.elim
    · rename_i b o0 n sz e off v i hx hy hi
      split at h
      · rename_i cs hcs
        split at h
        · rename_i hq
          simp only [Bool.and_eq_true, decide_eq_true_eq] at hq
          exact snd_storeS hT hop hx hy hi hcs hq.1 (Nat.eq_of_beq_eq_true hq.2.1) hq.2.2.1 (Nat.eq_of_beq_eq_true hq.2.2.2) h hg
        · exact h.elim
      · exact h.elim
    · rename_i id esz e off v i hx hy hi
      split at h
      · rename_i r hr
        split at h
        · rename_i hq
          simp only [Bool.and_eq_true, decide_eq_true_eq] at hq
          exact snd_storeE hT hop hx hy hi hr hq.1 (Nat.eq_of_beq_eq_true hq.2.1) hq.2.2.1 (Nat.eq_of_beq_eq_true hq.2.2.2.1) hq.2.2.2.2 h hg
        · exact h.elim
      · exact h.elim
    · exact h.elim
  case nilCheck x =>
    split at h
    · rename_i b off hx; exact snd_nilCheck hop hx (.inl (.inl ⟨b, off, rfl⟩)) h hg
    · rename_i b off hx; exact snd_nilCheck hop hx (.inl (.inr (.inl ⟨b, off, rfl⟩))) h hg
    · rename_i b o0 n sz e off hx; exact snd_nilCheckS hop hx h hg
    · rename_i g hx; exact snd_nilCheck hop hx (.inr ⟨g, rfl⟩) h hg
    · rename_i id esz e off hx; exact snd_nilCheck hop hx (.inl (.inr (.inr ⟨id, esz, e, off, rfl⟩))) h hg
    · rename_i g fs ps hx; exact snd_nilCheckC hop hx h hg
    · exact h.elim
    · exact h.elim
  case binOp op xt x y yt =>
    split at h
    · rename_i v u hx hy; exact snd_bin hT hop hx hy h hg
    · exact h.elim
  case unOp op t x =>
    split at h
    · rename_i e hx; exact snd_un hop hx h hg
    · rename_i kd e hx; exact snd_un hop hx h hg
    · rename_i kd e hx; exact snd_un hop hx h hg
    · exact h.elim
  case convert s d x =>
    split at h
    · rename_i k0 e i is hx hi his
      split at h
      · rename_i kd hk; exact snd_conv hT hop hx hi his hk h hg
      · exact h.elim
    · exact h.elim
  case fieldAddr s x f =>
    split at h
    · rename_i b off i hx hi
      split at h
      · rename_i fo ft hf; exact snd_fieldAddr hT hop hx hi hf (fun j v hv => moved_ptr hv) h hg
      · exact h.elim
    · rename_i b off i hx hi
      split at h
      · rename_i fo ft hf; exact snd_fieldAddr hT hop hx hi hf (fun j v hv => moved_fp hv) h hg
      · exact h.elim
    · rename_i b o0 n sz e off i hx hi
      split at h
      · rename_i fo ft hf; exact snd_fieldAddr hT hop hx hi hf (fun j v hv => moved_pe hv) h hg
      · exact h.elim
    · rename_i id esz e off i hx hi
      split at h
      · rename_i fo ft hf; exact snd_fieldAddr hT hop hx hi hf (fun j v hv => moved_ep hv) h hg
      · exact h.elim
    · exact h.elim
  case field s x f =>
    split at h
    · rename_i cs i hx hi
      split at h
      · rename_i fo ft hf
        split at h
        · rename_i v hv; exact snd_field hT hop hx hi hf hv h hg
        · exact h.elim
      · exact h.elim
    · exact h.elim
  case indexAddr t x y =>
    split at h
    · rename_i b off k0 e i hx hy hi
      split at h
      · rename_i n et ha
        split at h
        · rename_i ie hie
          split at h
          · exact snd_indexSym hT hop hx hy hi ha hie h hg
          · exact snd_indexAddr hT hop hx hy hi ha hie (c' := fun m => .ptr b (off + m * ie.size)) (fun m j v hv => moved_ptr hv) h hg
        · exact h.elim
      · exact h.elim
    · rename_i id esz e0 off k0 e i hx hy hi
      split at h
      · rename_i n et ha
        split at h
        · rename_i ie hie; exact snd_indexAddr hT hop hx hy hi ha hie (c' := fun m => .ep id esz e0 (off + m * ie.size)) (fun m j v hv => moved_ep hv) h hg
        · exact h.elim
      · exact h.elim
    · rename_i id k0 e i hx hy hi
      split at h
      · rename_i et ha
        split at h
        · rename_i ie r hie hr
          split at h
          · rename_i hks; exact snd_indexRow hT hop hx hy hi ha hie hr (Nat.eq_of_beq_eq_true hks) h hg
          · exact h.elim
        · exact h.elim
      · exact h.elim
    · exact h.elim
    · exact h.elim
  case index t x y =>
    split at h
    · rename_i cs k0 e i hx hy hi
      split at h
      · rename_i n et ha
        split at h
        · rename_i ie hie; exact snd_index hT hop hx hy hi ha hie h hg
        · exact h.elim
      · exact h.elim
    · exact h.elim
  case pick c x y =>
    split at h
    · rename_i e u v hc hx hy; exact snd_pick hop hc hx hy h hg
    · exact h.elim
  case build t ps =>
    split at h
    · rename_i parts hps
      split at h
      · rename_i v hv; exact snd_build hT hop hps hv h hg
      · exact h.elim
    · exact h.elim
  case buildSlice t n ps =>
    split at h
    · rename_i parts i hps hi
      split at h
      · rename_i et ha
        split at h
        · rename_i ie hie
          split at h
          · rename_i ks cs hks hfill
            split at h
            · rename_i l hl
              split at h
              · rename_i hq
                simp only [Bool.and_eq_true, decide_eq_true_eq] at hq
                exact snd_buildSlice hT hop hps hi ha hie hfill hl ⟨hq.1, hq.2.1, Nat.eq_of_beq_eq_true hq.2.2⟩ h hg
              · exact h.elim
            · exact h.elim
          · exact h.elim
        · exact h.elim
      · exact h.elim
    · exact h.elim
  case makeSlice t x y =>
    split at h
    · rename_i k1 e k2 e' i hx hy hi
      split at h
      · rename_i et ha
        split at h
        · rename_i ie hie
          split at h
          · rename_i ks hks
            split at h
            · rename_i r hr
              split at h
              · rename_i hq
                simp only [Bool.and_eq_true, decide_eq_true_eq] at hq
                exact snd_makeSlice hT hop hx hy hi ha hie hr ⟨hq.1, hq.2.1, Nat.eq_of_beq_eq_true hq.2.2.1, hq.2.2.2⟩ h hg
              · exact h.elim
            · exact h.elim
          · exact h.elim
        · exact h.elim
      · exact h.elim
    · exact h.elim
  case slice t x lo hi' mx =>
    cases mx with
    | some m => exact h.elim
    | none =>
      simp only [opK] at h
      split at h
      · rename_i id i hx hi
        split at h
        · rename_i et r ha hr
          split at h
          · rename_i ie hie
            split at h
            · rename_i hq
              simp only [Bool.and_eq_true] at hq
              have hks := Nat.eq_of_beq_eq_true hq.1
              split at h
              · rename_i h1 h2
                have e1 : hi' = none := by simpa using h1
                have e2 : lo = none := by simpa using h2
                subst e1 e2
                exact snd_whole hT hop hx hi ha hie h hg
              · rename_i kd a h1 h2
                have e1 : hi' = none := by simpa using h1
                subst e1
                rw [Option.map_eq_some_iff] at h2
                obtain ⟨y, rfl, hy⟩ := h2
                obtain ⟨kw1, g1, q1, _, l1⟩ := decK_ok _ _ _ h hg
                rw [mkLt_B] at g1
                split at g1
                · exact g1.elim
                rename_i n1
                obtain ⟨kw2, g2, q2, _, l2⟩ := decK_ok _ _ _ g1 q1
                rw [mkLt_B, mkLen_I] at g2
                split at g2
                · exact g2.elim
                rename_i n2
                have m1 : ¬ a.I ρ < 0 := of_decide_eq_false (Bool.eq_false_iff.2 n1)
                have m2 : ¬ ((r.l.R ρ).length : Int) < a.I ρ := of_decide_eq_false (Bool.eq_false_iff.2 n2)
                exact (snd_cut hT hop hx hi ha hie hr hks (L := (a.I ρ).toNat) (H := (r.l.R ρ).length) (.inr ⟨y, kd, a, rfl, hy, by omega⟩) (.inl ⟨rfl, rfl⟩) (by simp [E.R]) (by omega) g2 q2).lv (l2.trans l1)
              · rename_i kd c h1 h2
                have e2 : lo = none := by simpa using h2
                subst e2
                rw [Option.map_eq_some_iff] at h1
                obtain ⟨y, rfl, hy⟩ := h1
                obtain ⟨kw1, g1, q1, _, l1⟩ := decK_ok _ _ _ h hg
                rw [mkLt_B] at g1
                split at g1
                · exact g1.elim
                rename_i n1
                obtain ⟨kw2, g2, q2, _, l2⟩ := decK_ok _ _ _ g1 q1
                rw [mkLt_B, mkLen_I] at g2
                split at g2
                · exact g2.elim
                rename_i n2
                have m1 : ¬ c.I ρ < 0 := of_decide_eq_false (Bool.eq_false_iff.2 n1)
                have m2 : ¬ ((r.l.R ρ).length : Int) < c.I ρ := of_decide_eq_false (Bool.eq_false_iff.2 n2)
                exact (snd_cut hT hop hx hi ha hie hr hks (L := 0) (H := (c.I ρ).toNat) (.inl ⟨rfl, rfl⟩) (.inr ⟨y, kd, c, rfl, hy, by omega⟩) (by simp [E.R]) (by omega) g2 q2).lv (l2.trans l1)
              · rename_i kd c kd' a h1 h2
                rw [Option.map_eq_some_iff] at h1 h2
                obtain ⟨y, rfl, hy⟩ := h1
                obtain ⟨y', rfl, hy'⟩ := h2
                obtain ⟨kw1, g1, q1, _, l1⟩ := decK_ok _ _ _ h hg
                rw [mkLt_B] at g1
                split at g1
                · exact g1.elim
                rename_i n1
                obtain ⟨kw2, g2, q2, _, l2⟩ := decK_ok _ _ _ g1 q1
                rw [mkLt_B, mkLen_I] at g2
                split at g2
                · exact g2.elim
                rename_i n2
                obtain ⟨kw3, g3, q3, _, l3⟩ := decK_ok _ _ _ g2 q2
                rw [mkLt_B] at g3
                split at g3
                · exact g3.elim
                rename_i n3
                obtain ⟨kw4, g4, q4, _, l4⟩ := decK_ok _ _ _ g3 q3
                rw [mkLt_B] at g4
                split at g4
                · exact g4.elim
                rename_i n4
                have m1 : ¬ c.I ρ < 0 := of_decide_eq_false (Bool.eq_false_iff.2 n1)
                have m2 : ¬ ((r.l.R ρ).length : Int) < c.I ρ := of_decide_eq_false (Bool.eq_false_iff.2 n2)
                have m3 : ¬ a.I ρ < 0 := of_decide_eq_false (Bool.eq_false_iff.2 n3)
                have m4 : ¬ c.I ρ < a.I ρ := of_decide_eq_false (Bool.eq_false_iff.2 n4)
                exact (snd_cut hT hop hx hi ha hie hr hks (L := (a.I ρ).toNat) (H := (c.I ρ).toNat) (.inr ⟨y', kd', a, rfl, hy', by omega⟩) (.inr ⟨y, kd, c, rfl, hy, by omega⟩) (by simp [E.R]) (by omega) g4 q4).lv (l4.trans (l3.trans (l2.trans l1)))
              · exact h.elim
            · exact h.elim
          · exact h.elim
        · exact h.elim
      · exact h.elim
  case makeMap t rs =>
    cases rs with
    | some _ => exact h.elim
    | none =>
      dsimp only at h
      split at h
      · rename_i i hi
        split at h
        · rename_i kt et hm
          split at h
          · rename_i ki ei hki hei
            split at h
            · split at h
              · exact snd_makeMap hT hop (ki := ki) (ei := ei) hi hm h hg
              · exact h.elim
            · exact h.elim
          · exact h.elim
        · exact h.elim
      · exact h.elim
  case lookup t x y ok =>
    split at h
    · rename_i id kv i hx hy hi
      split at h
      · rename_i kt et r nk ka va hm hr
        split at h
        · rename_i ki ei key hki hei hkey
          split at h
          · rename_i hf; exact snd_lookup hT hop hx hy hi hm hr hki hei hkey hf h hg
          · exact h.elim
        · exact h.elim
      · exact h.elim
    · exact h.elim
  case mapUpdate t x y z =>
    split at h
    · rename_i id kv zv i hx hy hz hi
      split at h
      · rename_i kt et r nk ka va hm hr
        split at h
        · rename_i ki ei key hki hei hkey
          split at h
          · rename_i row hrow
            split at h
            · rename_i hf
              rw [Bool.and_eq_true] at hf
              exact snd_mapUpdate hT hop hx hy hz hi hm hr hki hei hkey hrow hf.1 hf.2 h hg
            · exact h.elim
          · exact h.elim
        · exact h.elim
      · exact h.elim
    · exact h.elim
  case range t x =>
    split at h
    · rename_i id i hx hi
      split at h
      · rename_i p r nk ka va hm hr
        split at h
        · exact h.elim
        · rename_i hne
          exact snd_range hT hop hx hi (kt := p.1) (et := p.2) hm hr (Bool.eq_false_iff.2 hne) h hg
      · exact h.elim
    · exact h.elim
  case entry x =>
    split at h
    · rename_i id mid hx
      split at h
      · rename_i q mid' n hq
        split at h
        · rename_i hmid
          have e := Nat.eq_of_beq_eq_true hmid
          subst e
          split at h
          · rename_i sl iv r nk ka va hql hr
            split at h
            · rename_i hn
              simp only [Bool.and_eq_true, Bool.or_eq_true, decide_eq_true_eq] at hn
              exact snd_entry hT hop hx hq hql hr hn.1 h hg (fun e => hn.2.2.1.elim (fun h1 => by rw [e] at h1; cases h1) Nat.eq_of_beq_eq_true) (fun e => hn.2.2.2.elim (fun h1 => by rw [e] at h1; cases h1) Nat.eq_of_beq_eq_true) hn.2.1
            · exact h.elim
          · exact h.elim
        · exact h.elim
      · exact h.elim
    · exact h.elim
  case makeFunc fn fs ps =>
    split at h
    · rename_i g x y hx hy; exact snd_makeFunc hop hx hy h hg
    · exact h.elim
  case extract x n =>
    split at h
    · rename_i vs hx
      split at h
      · rename_i cs hp; exact snd_extract hop hx hp (.inl ⟨cs, rfl, rfl⟩) h hg
      · rename_i c hp; exact snd_extract hop hx hp (.inr ⟨c, rfl, rfl⟩) h hg
      · exact h.elim
    · exact h.elim
  case call c =>
    split at h
    · rename_i f hc
      split at h
      · rename_i g args hf hl; exact snd_call hS hkeys hop hc hf hl h hg
      · exact h.elim
    · rename_i hc
      split at h
      · rename_i id t hl hty
        split at h
        · rename_i i r hi hr
          split at h
          · rename_i hsl; exact snd_len hT hop hc hl hty hi hsl hr h hg
          · exact h.elim
        · exact h.elim
      · rename_i t hl hty
        split at h
        · rename_i i hi
          split at h
          · rename_i hsl; exact snd_len0 hT hop hc hl hty hi hsl h hg
          · exact h.elim
        · exact h.elim
      · exact h.elim
    · rename_i hc
      split at h
      · rename_i s id t t' hl hty
        split at h
        · rename_i i r hi hr
          split at h
          · rename_i et ha
            split at h
            · rename_i ie hie
              split at h
              · rename_i hq
                simp only [Bool.and_eq_true, decide_eq_true_eq] at hq
                have htt := Nat.eq_of_beq_eq_true hq.1
                subst htt
                have hq' : r.ty = et ∧ r.ks.length = ie.size ∧ 0 < ie.size ∧ ie.bytes ≤ 65536 := ⟨Nat.eq_of_beq_eq_true hq.2.1, Nat.eq_of_beq_eq_true hq.2.2.1, hq.2.2.2.1, hq.2.2.2.2⟩
                split at h
                · exact snd_append0 hT hop hc hl hty hi ha hie hr hq' h hg
                · rename_i old
                  split at h
                  · rename_i q hrq
                    split at h
                    · rename_i hq2
                      simp only [Bool.and_eq_true] at hq2
                      exact snd_append hT hop hc hl hty hi ha hie hr hrq hq' ⟨hq2.1, Nat.eq_of_beq_eq_true hq2.2.1, ceSame_eq hq2.2.2.1⟩ h hg
                    · exact h.elim
                  · exact h.elim
                · exact h.elim
              · exact h.elim
            · exact h.elim
          · exact h.elim
        · exact h.elim
      · exact h.elim
    · rename_i hc
      split at h
      · rename_i k0 e l hl
        split at h
        · rename_i e' he; exact snd_mm false hop hc hl he h hg
        · exact h.elim
      · exact h.elim
    · rename_i hc
      split at h
      · rename_i k0 e l hl
        split at h
        · rename_i e' he; exact snd_mm true hop hc hl he h hg
        · exact h.elim
      · exact h.elim
    · exact h.elim
  all_goals exact h.elim
end
end Go.Proofs.Ytgfghplnankgnaa


/- States of a symbolic run with rows, what they say of a frame and a world, and that an operation leads from one to the next. Nothing of the program is in here. -/
set_option linter.unusedVariables false
set_option linter.unusedSimpArgs false
namespace Go.Proofs.Ytgfghplnankgnaa
open Go.RowKit

/-- A state: temporaries, boxes, rows (none: such a number isn't given; some none: a row that is gone). -/
structure FS where
  tmp : Nat → V
  box : Nat → Option (List C × Nat)
  row : Nat → Option (Option RowOb)
theorem FS.ext' {F F' : FS} (h1 : ∀ t, F.tmp t = F'.tmp t) (h2 : ∀ b, F.box b = F'.box b) (h3 : ∀ b, F.row b = F'.row b) : F = F' := by
  cases F; cases F'
  simp only [FS.mk.injEq]
  exact ⟨funext h1, funext h2, funext h3⟩

def FS.put (F : FS) (dst : Option Nat) (v : V) : FS := { F with tmp := fun t => if dst = some t then v else F.tmp t }
def FS.new (F : FS) (nid : Nat) (x : List C × Nat) : FS := { F with box := fun b => if b = nid then some x else F.box b }
def FS.wr (F : FS) (p : Nat × Nat × C) : FS := { F with box := fun b => if b = p.1 then (F.box b).map (fun x => (x.1.set p.2.1 p.2.2, x.2)) else F.box b }
def FS.wrs (F : FS) (l : List (Nat × Nat × C)) : FS := l.foldl FS.wr F
def FS.rw1 (F : FS) (p : Nat × Option RowOb) : FS := { F with row := fun b => if b = p.1 then some p.2 else F.row b }
def FS.rws (F : FS) (l : List (Nat × Option RowOb)) : FS := l.foldl FS.rw1 F
def FS.app (F : FS) (dst : Option Nat) (nid : Nat) (eff : Eff) : FS :=
  ((match eff.al with | some x => F.new nid x | none => F.wrs eff.wr).rws (eff.re.rs nid)).put dst eff.val

def evF (F : FS) (n : Nat) : Operand → Option V
  | .tmp t => if t < n then (match F.tmp t with | .top => none | v => some v) else none
  | .const v => ofValue v
  | .global _ => none
  | .func f => some (.one (.fn f))
def ldF (F : FS) (b o : Nat) : Option C := (F.box b).bind fun x => x.1[o]?
def rwF (F : FS) (id : Nat) : Option RowOb := (F.row id).bind fun x => x

structure Rel (ρ : Env) (n : Nat) (X : List Value) (W0 : World) (fb : Nat → Option (List C)) (F : FS) (j : J) (a : Act) (w : World) : Prop where
  defers : a.defers = []
  size : a.tmps.size = n
  tmp : ∀ t, t < n → ∃ v, a.tmps[t]? = some v ∧ (F.tmp t = .top ∨ (F.tmp t).den ρ j = some v)
  sav : ∀ (i : Nat) v, X[i]? = some v → F.tmp (n + i) = .top ∨ (F.tmp (n + i)).den ρ j = some v
  box : ∀ b cs ty, F.box b = some (cs, ty) → ∃ k vs, j.b b = some k ∧ W0.heap.size ≤ k ∧ denL ρ j cs = some vs ∧ w.heap[k]? = some (.cells vs.toArray ty (0, 0))
  nob : ∀ b, F.box b = none → j.b b = none
  inj : ∀ b b' k, j.b b = some k → j.b b' = some k → b = b'
  row : ∀ b r, F.row b = some (some r) → ∃ s, j.s b = some s ∧ RowOk ρ W0.heap.size w s r
  nor : ∀ b, F.row b = none → j.s b = none
  sep : ∀ b b' k r s, j.b b = some k → F.row b' = some (some r) → j.s b' = some s → s.blk r.own ≠ some k
  rsep : ∀ b b' r r' s s' k, F.row b = some (some r) → r.own = true → F.row b' = some (some r') → j.s b = some s → j.s b' = some s' → s.blk r.own = some k → s'.blk r'.own = some k → b = b'
  fb : ∀ b cs, fb b = some cs → ∃ k vs, j.f b = some k ∧ k < W0.heap.size ∧ denL ρ j cs = some vs ∧ ∀ o v, vs[o]? = some v → w.cell? ⟨k, o, none⟩ = some v
  ext : Ext W0 w

section
variable {P : Program} {ρ : Env} {n : Nat} {X : List Value} {W0 : World} {fb : Nat → Option (List C)} {F : FS} {j : J} {a : Act} {w : World}

theorem Rel.lt (h : Rel ρ n X W0 fb F j a w) {b k : Nat} (hb : j.b b = some k) : ∃ cs ty vs, F.box b = some (cs, ty) ∧ W0.heap.size ≤ k ∧ denL ρ j cs = some vs ∧ w.heap[k]? = some (.cells vs.toArray ty (0, 0)) ∧ k < w.heap.size := by
  cases hF : F.box b with
  | none => rw [h.nob b hF] at hb; cases hb
  | some x =>
    obtain ⟨cs, ty⟩ := x
    obtain ⟨k', vs, h1, h2, h3, h4⟩ := h.box b cs ty hF
    rw [hb] at h1; cases h1
    refine ⟨cs, ty, vs, rfl, h2, h3, h4, ?_⟩
    rcases Nat.lt_or_ge k w.heap.size with hlt | hge
    · exact hlt
    · rw [Array.getElem?_eq_none hge] at h4; cases h4

theorem cell_row {k o ty : Nat} {vs : List Value} (h : w.heap[k]? = some (.cells vs.toArray ty (0, 0))) : w.cell? ⟨k, o, none⟩ = vs[o]? := by
  simp [World.cell?, h]
theorem frozen_row {k o ty : Nat} {vs : List Value} (h : w.heap[k]? = some (.cells vs.toArray ty (0, 0))) : w.frozen? ⟨k, o, none⟩ = false := by
  simp [World.frozen?, h]

theorem Rel.eval (h : Rel ρ n X W0 fb F j a w) {x : Operand} {v : V} (hx : evF F n x = some v) : v.den ρ j = some (a.eval x) := by
  cases x with
  | tmp t =>
    simp only [evF] at hx
    split at hx
    · rename_i ht
      split at hx
      · cases hx
      · rename_i hne
        cases hx
        obtain ⟨u, h1, h2⟩ := h.tmp t ht
        rcases h2 with h2 | h2
        · exact absurd h2 hne
        · rw [h2]
          simp [Act.eval, Array.getD_eq_getD_getElem?, h1]
    · cases hx
  | const v0 => exact ofValue_ok hx ρ j
  | global g => cases hx
  | func f => cases hx; rfl

theorem Ext.grown' {w0 w w' : World} {row : Option Nat} (h : Ext w0 w) (hg : w.grownBy w' row) (hr : ∀ k, row = some k → w0.heap.size ≤ k) : Ext w0 w' := Below.grown h hg h.size hr
theorem Ext.block' {w0 w : World} (h : Ext w0 w) (k : Nat) (hk : k < w0.heap.size) : w.heap[k]? = w0.heap[k]? := h.block k hk
/-- A row stays where its block does. -/
theorem RdRow.kept {w w' : World} {esz : Nat} {s : SV} {xs : List Value} (h : RdRow w esz s xs) (hb : ∀ k, s.blk false = some k → w'.heap[k]? = w.heap[k]?) : RdRow w' esz s xs := by
  obtain ⟨h1, h2, h3, h4, h5⟩ := h
  refine ⟨h1, h2, h3, h4, fun a ha i u hu => ?_⟩
  have hc : s.c ≠ 0 := fun hc => by
    have hlt := (List.getElem?_eq_some_iff.1 hu).1
    have : s.n = 0 := by omega
    rw [h1, this] at hlt
    omega
  have := h5 a ha i u hu
  have hblk : (a.add i).block = a.block := by unfold Addr.add; split <;> rfl
  have he : w'.heap[(a.add i).block]? = w.heap[(a.add i).block]? := by
    rw [hblk]
    exact hb a.block (blk_cells hc (by simp [SV.v, ha, Value.ownBlock]))
  rw [World.cell?_of_block he]; exact this
theorem own_kept {w w' : World} {base ty esz n : Nat} {s : SV} {xs : List Value} (h : w.ownsRow base ty esz s.v n xs) (hb : ∀ k, s.v.ownBlock = some k → w'.heap[k]? = w.heap[k]?) : w'.ownsRow base ty esz s.v n xs := by
  refine ⟨h.1, ?_⟩
  rcases h.2 with h' | ⟨g, cap, cur, hv, h1, h2, h3⟩
  · exact .inl h'
  · exact .inr ⟨g, cap, cur, hv, h1, by rw [hb g (by rw [hv]; rfl)]; exact h2, h3⟩
theorem SlOk.kept {base : Nat} {w w' : World} {s : SV} {r : RowOb} (h : SlOk ρ base w s r) (hsz : w.heap.size ≤ w'.heap.size) (hb : ∀ k, s.blk r.own = some k → w'.heap[k]? = w.heap[k]?) : SlOk ρ base w' s r :=
  ⟨h.n, h.rows, h.pos, fun k hk => Nat.lt_of_lt_of_le (h.lt k hk) hsz, fun ho => own_kept (h.own ho) (by rw [ho] at hb; exact hb), h.rd.kept (fun k hk => hb k (blk_mono hk))⟩
theorem SlOk.base {b1 b2 : Nat} {w : World} {s : SV} {r : RowOb} (h : SlOk ρ b1 w s r) (hb : b2 ≤ b1) : SlOk ρ b2 w s r :=
  ⟨h.n, h.rows, h.pos, h.lt, fun ho => (h.own ho).mono hb, h.rd⟩

theorem RowOk.kept {base : Nat} {w w' : World} {s : SV} {r : RowOb} (h : RowOk ρ base w s r) (hsz : w.heap.size ≤ w'.heap.size) (hb : ∀ k, s.blk r.own = some k → w'.heap[k]? = w.heap[k]?) : RowOk ρ base w' s r := by
  rcases h.cases with ⟨hk, h⟩ | ⟨hk, h⟩
  · exact (h.kept hsz hb).row hk
  · obtain ⟨g, ob, h1, h2, h3, h4⟩ := h.at'
    exact HdOk.row ⟨h.own, h.rows, h.c, g, ob, h1, h2, by rw [hb g (h.blkAt h1 r.own)]; exact h3, h4⟩ hk
theorem RowOk.base {b1 b2 : Nat} {w : World} {s : SV} {r : RowOb} (h : RowOk ρ b1 w s r) (hb : b2 ≤ b1) : RowOk ρ b2 w s r := by
  rcases h.cases with ⟨hk, h⟩ | ⟨hk, h⟩
  · exact (h.base hb).row hk
  · obtain ⟨g, ob, h1, h2, h3, h4⟩ := h.at'
    exact HdOk.row ⟨h.own, h.rows, h.c, g, ob, h1, Nat.le_trans hb h2, h3, h4⟩ hk

/-- A world in which all that the state names lies as it lay. -/
theorem Rel.kept (h : Rel ρ n X W0 fb F j a w) {w' : World} (hx : Ext W0 w') (hsz : w.heap.size ≤ w'.heap.size)
    (hb : ∀ b k, j.b b = some k → w'.heap[k]? = w.heap[k]?) (hr : ∀ b r s k, F.row b = some (some r) → j.s b = some s → s.blk r.own = some k → w'.heap[k]? = w.heap[k]?) : Rel ρ n X W0 fb F j a w' where
  defers := h.defers
  size := h.size
  tmp := h.tmp
  sav := h.sav
  box b cs ty hF := by
    obtain ⟨k, vs, h1, h2, h3, h4⟩ := h.box b cs ty hF
    exact ⟨k, vs, h1, h2, h3, by rw [hb b k h1]; exact h4⟩
  nob := h.nob
  inj := h.inj
  row b r hF := by
    obtain ⟨s, h1, h2⟩ := h.row b r hF
    exact ⟨s, h1, h2.kept hsz (fun k hk => hr b r s k hF h1 hk)⟩
  nor := h.nor
  sep := h.sep
  rsep := h.rsep
  fb b cs hF := by
    obtain ⟨k, vs, h1, h2, h3, h4⟩ := h.fb b cs hF
    refine ⟨k, vs, h1, h2, h3, fun o v ho => ?_⟩
    have h5 := h4 o v ho
    have e1 : w'.heap[k]? = w.heap[k]? := (hx.block k h2).trans (h.ext.block k h2).symm
    rw [World.cell?_of_block (a := ⟨k, o, none⟩) e1]; exact h5
  ext := hx

/-- A call: more blocks. -/
theorem Rel.more (h : Rel ρ n X W0 fb F j a w) {w1 : World} (hx : Ext w w1) : Rel ρ n X W0 fb F j a w1 :=
  h.kept (h.ext.trans hx) hx.size (fun b k hk => by
    obtain ⟨_, _, _, _, _, _, _, hlt⟩ := h.lt hk
    exact hx.block k hlt) (fun b r s k hF hs hk => by
    obtain ⟨s', h1, h2⟩ := h.row b r hF
    rw [hs] at h1; cases h1
    exact hx.block k (h2.lt k hk))

theorem Rel.put (h : Rel ρ n X W0 fb F j a w) {dst : Option Nat} {v : V} {u : Value} (hv : v.den ρ j = some u) (hd : ∀ d, dst = some d → d < n) : Rel ρ n X W0 fb (F.put dst v) j (a.put dst u) w where
  defers := by cases dst <;> simp [Act.put, h.defers]
  size := by cases dst <;> simp [Act.put, h.size]
  tmp t ht := by
    cases dst with
    | none => simpa [FS.put, Act.put] using h.tmp t ht
    | some d =>
      by_cases hdt : d = t
      · subst hdt
        exact ⟨u, by simp [Act.put, Array.getElem?_setIfInBounds, h.size, ht], .inr (by simp [FS.put, hv])⟩
      · obtain ⟨x, h1, h2⟩ := h.tmp t ht
        exact ⟨x, by simp [Act.put, Array.getElem?_setIfInBounds, hdt, h1], by simpa [FS.put, hdt] using h2⟩
  sav i v hi := by
    have : ¬ dst = some (n + i) := fun e => by have := hd _ e; omega
    simpa only [FS.put, this, if_false] using h.sav i v hi
  box := h.box
  nob := h.nob
  inj := h.inj
  row := h.row
  nor := h.nor
  sep := h.sep
  rsep := h.rsep
  fb := h.fb
  ext := h.ext

theorem Rel.new (h : Rel ρ n X W0 fb F j a w) {nid ty : Nat} {cs : List C} {vs : List Value} (hd : denL ρ j cs = some vs) (hn : F.box nid = none) :
    Rel ρ n X W0 fb (F.new nid (cs, ty)) { j with b := fun b => if b = nid then some w.heap.size else j.b b } a (w.alloc (.cells vs.toArray ty)) := by
  have hs : Sub j { j with b := fun b => if b = nid then some w.heap.size else j.b b } := ⟨fun b k hb => by
    have : b ≠ nid := fun e => by rw [e, h.nob nid hn] at hb; cases hb
    simp [this, hb], fun _ _ hb => hb, fun _ _ hb => hb⟩
  have h' := h.more ((Ext.refl w).alloc (.cells vs.toArray ty))
  refine ⟨h.defers, h.size, fun t ht => ?_, fun i v hi => (h.sav i v hi).imp id (V.den_sub hs), fun b cs' ty' hF => ?_, fun b hF => ?_, fun b b' k h1 h2 => ?_, h'.row, h'.nor, fun b b' k r s h1 h2 h3 h4 => ?_, h'.rsep, fun b cs hF => ?_, h'.ext⟩
  · obtain ⟨v, h1, h2⟩ := h.tmp t ht
    exact ⟨v, h1, h2.imp id (V.den_sub hs)⟩
  · by_cases hb : b = nid
    · simp only [FS.new, hb, if_true, Option.some.injEq, Prod.mk.injEq] at hF
      obtain ⟨rfl, rfl⟩ := hF
      exact ⟨w.heap.size, vs, by simp [hb], h.ext.size, denL_sub hs hd, by exact heap_alloc_new _ _⟩
    · simp only [FS.new, hb, if_false] at hF
      obtain ⟨k, us, h1, h2, h3, h4⟩ := h'.box b cs' ty' hF
      exact ⟨k, us, by simp [hb, h1], h2, denL_sub hs h3, h4⟩
  · by_cases hb : b = nid
    · simp [FS.new, hb] at hF
    · simp only [FS.new, hb, if_false] at hF
      simp [hb, h.nob b hF]
  · by_cases hb : b = nid <;> by_cases hb' : b' = nid <;> simp only [hb, hb', if_true, if_false] at h1 h2
    · rw [hb, hb']
    · obtain ⟨_, _, _, _, _, _, _, hlt⟩ := h.lt h2
      cases h1; omega
    · obtain ⟨_, _, _, _, _, _, _, hlt⟩ := h.lt h1
      cases h2; omega
    · exact h.inj b b' k h1 h2
  · by_cases hb : b = nid
    · simp only [hb, if_true, Option.some.injEq] at h1
      obtain ⟨s', h5, h6⟩ := h.row b' r h2
      rw [h3] at h5; cases h5
      have := h6.lt k h4
      omega
    · simp only [hb, if_false] at h1
      exact h.sep b b' k r s h1 h2 h3 h4
  · obtain ⟨k, us, h1, h2, h3, h4⟩ := h'.fb b cs hF
    exact ⟨k, us, h1, h2, denL_sub hs h3, h4⟩

theorem Rel.wr1 (h : Rel ρ n X W0 fb F j a w) {b o : Nat} {c : C} {k : Nat} {v : Value} (hk : j.b b = some k) (hv : c.den ρ j = some v) : Rel ρ n X W0 fb (F.wr (b, o, c)) j a (w.setCell ⟨k, o, none⟩ v) := by
  obtain ⟨cs, ty, vs, hF, hge, hd, hh, hlt⟩ := h.lt hk
  have other : ∀ k', k' ≠ k → (w.setCell ⟨k, o, none⟩ v).heap[k']? = w.heap[k']? := fun k' hne => heap_setCell_other w ⟨k, o, none⟩ k' v hne
  have hx : Ext W0 (w.setCell ⟨k, o, none⟩ v) := h.ext.setCell hge v
  have hsz : w.heap.size ≤ (w.setCell ⟨k, o, none⟩ v).heap.size := by simp [World.setCell]
  refine ⟨h.defers, h.size, h.tmp, h.sav, fun b' cs' ty' hF' => ?_, fun b' hF' => ?_, h.inj, fun b' r hF' => ?_, h.nor, h.sep, h.rsep, fun b' cs' hF' => ?_, hx⟩
  · by_cases hb : b' = b
    · subst hb
      simp only [FS.wr, if_true, hF, Option.map_some, Option.some.injEq, Prod.mk.injEq] at hF'
      obtain ⟨rfl, rfl⟩ := hF'
      refine ⟨k, vs.set o v, hk, hge, denL_set hd o c v hv, ?_⟩
      have := heap_setCell_same w k o vs.toArray ty v hh
      simpa using this
    · simp only [FS.wr, hb, if_false] at hF'
      obtain ⟨k', us, h1, h2, h3, h4⟩ := h.box b' cs' ty' hF'
      exact ⟨k', us, h1, h2, h3, by rw [other k' (fun e => hb (h.inj b' b k (by rw [h1, e]) hk))]; exact h4⟩
  · by_cases hb : b' = b
    · subst hb; simp [FS.wr, hF] at hF'
    · simp only [FS.wr, hb, if_false] at hF'
      exact h.nob b' hF'
  · obtain ⟨s, h1, h2⟩ := h.row b' r hF'
    exact ⟨s, h1, h2.kept hsz (fun k' hk' => other k' (fun e => h.sep b b' k r s hk hF' h1 (e ▸ hk')))⟩
  · obtain ⟨k', us, h1, h2, h3, h4⟩ := h.fb b' cs' hF'
    refine ⟨k', us, h1, h2, h3, fun o' v' ho => ?_⟩
    rw [World.cell?_of_block (a := ⟨k', o', none⟩) (other k' (by omega))]
    exact h4 o' v' ho
theorem Rel.wrs : ∀ {l : List (Nat × Nat × C)} {F : FS} {w w' : World}, Rel ρ n X W0 fb F j a w → Writes ρ j l w w' → Rel ρ n X W0 fb (F.wrs l) j a w'
  | [], F, w, w', h, hw => by
    have e : w' = w := hw
    subst e
    exact h
  | (b, o, c) :: l, F, w, w', h, hw => by
    obtain ⟨k, v, hk, hv, hw'⟩ := hw
    exact Rel.wrs (F := F.wr (b, o, c)) (h.wr1 hk hv) hw'

/-- One row's block turns, and what is known of that row. -/
theorem Rel.turn (h : Rel ρ n X W0 fb F j a w) {w' : World} {id : Nat} {q : RowOb} {s : SV} (hq : F.row id = some (some q)) (hown : q.own = true) (hs : j.s id = some s) (hg : w.grownBy w' s.v.ownBlock) :
    Ext W0 w' ∧ (∀ b k, j.b b = some k → w'.heap[k]? = w.heap[k]?) ∧ (∀ b r s' k, b ≠ id → F.row b = some (some r) → j.s b = some s' → s'.blk r.own = some k → w'.heap[k]? = w.heap[k]?) := by
  obtain ⟨s0, h1, h2⟩ := h.row id q hq
  rw [hs] at h1; cases h1
  refine ⟨h.ext.grown' hg (fun k hk => (h2.owned hown k hk).2), fun b k hb => ?_, fun b r s' k hne hF hs' hk => ?_⟩
  · obtain ⟨_, _, _, _, _, _, _, hlt⟩ := h.lt hb
    exact hg.block k hlt (fun e => h.sep b id k q s hb hq hs (by rw [hown]; exact e.symm))
  · obtain ⟨s1, h3, h4⟩ := h.row b r hF
    rw [hs'] at h3; cases h3
    exact hg.block k (h4.lt k hk) (fun e => hne (h.rsep id b q r s s' k hq hown hF hs hs' (by rw [hown]; exact e.symm) hk).symm)
end
end Go.Proofs.Ytgfghplnankgnaa


/- An operation leads from a state of a symbolic run to the next one. Nothing of the program is in here. -/
set_option linter.unusedVariables false
set_option linter.unusedSimpArgs false
namespace Go.Proofs.Ytgfghplnankgnaa
open Go.RowKit

section
variable {P : Program} {ρ : Env} {n : Nat} {X : List Value} {W0 : World} {fb : Nat → Option (List C)} {F : FS} {j : J} {a : Act} {w : World}

/-- What an operation on rows must find. -/
def ReOk (F : FS) (nid : Nat) : RE → Prop
  | .none => True
  | .set id r => (∃ q, F.row id = some (some q) ∧ q.own = true) ∧ r.own = true
  | .mk rs => ∀ i, i < rs.length → F.row (nid + i) = none
  | .app old r => (∃ q, F.row old = some (some q) ∧ q.own = true) ∧ r.own = true ∧ F.row nid = none ∧ nid ≠ old
  | .view old q r => (∃ q0, F.row old = some (some q0)) ∧ q.own = false ∧ r.own = false ∧ F.row nid = none ∧ nid ≠ old

theorem mkRs_row : ∀ (rs : List RowOb) (nid : Nat) (F : FS) (b : Nat), (F.rws (mkRs nid rs)).row b = if nid ≤ b ∧ b < nid + rs.length then some rs[b - nid]? else F.row b
  | [], nid, F, b => by simp [mkRs, FS.rws]; omega
  | r :: rs, nid, F, b => by
    show ((F.rw1 (nid, some r)).rws (mkRs (nid + 1) rs)).row b = _
    rw [mkRs_row rs (nid + 1)]
    by_cases h1 : nid + 1 ≤ b ∧ b < nid + 1 + rs.length
    · rw [if_pos h1, if_pos (by simp; omega)]
      rw [show b - nid = (b - (nid + 1)) + 1 by omega]
      rfl
    · rw [if_neg h1]
      by_cases h2 : b = nid
      · subst h2
        rw [if_pos (by simp)]
        simp [FS.rw1]
      · rw [if_neg (by simp; omega)]
        simp [FS.rw1, h2]
theorem rws_box : ∀ (l : List (Nat × Option RowOb)) (F : FS), (F.rws l).box = F.box ∧ (F.rws l).tmp = F.tmp
  | [], _ => ⟨rfl, rfl⟩
  | p :: l, F => rws_box l (F.rw1 p)

theorem Rel.set (h : Rel ρ n X W0 fb F j a w) {w' : World} {id : Nat} {r : RowOb} {s : SV} (hr : ReOk F 0 (.set id r)) (hs : j.s id = some s) (hg : w.grownBy w' s.v.ownBlock) (hok : RowOk ρ W0.heap.size w' s r) : Rel ρ n X W0 fb (F.rws (RE.rs 0 (.set id r))) j a w' := by
  obtain ⟨⟨q, hq, hown⟩, hro⟩ := hr
  obtain ⟨hx, hb, hother⟩ := h.turn hq hown hs hg
  have back : ∀ b r', (F.rw1 (id, some r)).row b = some (some r') → ∃ q', F.row b = some (some q') ∧ r'.own = q'.own := by
    intro b r' hF
    simp only [FS.rw1] at hF
    split at hF
    · rename_i hbid; subst hbid; simp only [Option.some.injEq] at hF; subst hF; exact ⟨q, hq, by rw [hown]; exact hro⟩
    · exact ⟨r', hF, rfl⟩
  show Rel ρ n X W0 fb (F.rw1 (id, some r)) j a w'
  refine ⟨h.defers, h.size, h.tmp, h.sav, fun b cs ty hF => ?_, h.nob, h.inj, fun b r' hF => ?_, fun b hF => ?_, fun b b' k r' s' h1 h2 h3 => ?_, fun b b' r1 r2 s1 s2 k h1 h2 h3 h4 h5 => ?_, fun b cs hF => ?_, hx⟩
  · obtain ⟨k, vs, h1, h2, h3, h4⟩ := h.box b cs ty hF
    exact ⟨k, vs, h1, h2, h3, by rw [hb b k h1]; exact h4⟩
  · by_cases hbid : b = id
    · subst hbid
      simp only [FS.rw1, if_true, Option.some.injEq] at hF
      subst hF
      exact ⟨s, hs, hok⟩
    · simp only [FS.rw1, hbid, if_false] at hF
      obtain ⟨s', h1, h2⟩ := h.row b r' hF
      exact ⟨s', h1, h2.kept hg.size (fun k hk => hother b r' s' k hbid hF h1 hk)⟩
  · simp only [FS.rw1] at hF
    split at hF
    · cases hF
    · exact h.nor b hF
  · obtain ⟨q', hq', ho⟩ := back b' r' h2
    rw [ho]
    exact h.sep b b' k q' s' h1 hq' h3
  · obtain ⟨q1, hq1, ho⟩ := back b r1 h1
    obtain ⟨q2, hq2, ho2⟩ := back b' r2 h3
    rw [ho, ho2]
    exact h.rsep b b' q1 q2 s1 s2 k hq1 (by rw [← ho]; exact h2) hq2 h4 h5
  · obtain ⟨k, vs, h1, h2, h3, h4⟩ := h.fb b cs hF
    refine ⟨k, vs, h1, h2, h3, fun o v ho => ?_⟩
    rw [World.cell?_of_block (a := ⟨k, o, none⟩) ((hx.block' k h2).trans (h.ext.block' k h2).symm)]
    exact h4 o v ho

theorem putL_get {j : J} {nid : Nat} {svs : List SV} {b : Nat} : (j.putL nid svs).s b = if nid ≤ b ∧ b < nid + svs.length then svs[b - nid]? else j.s b := by
  simp only [J.putL]
  by_cases h1 : nid ≤ b
  · by_cases h2 : b < nid + svs.length
    · rw [if_pos h1, if_pos ⟨h1, h2⟩, List.getElem?_eq_getElem (by omega)]
    · rw [if_pos h1, if_neg (fun e => h2 e.2), List.getElem?_eq_none (by omega)]
  · rw [if_neg h1, if_neg (fun e => h1 e.1)]

theorem Rel.made (h : Rel ρ n X W0 fb F j a w) {w' : World} {nid : Nat} {rs : List RowOb} {svs : List SV} (hr : ReOk F nid (.mk rs)) (hx : Ext w w') (hl : svs.length = rs.length)
    (hok : ∀ (i : Nat) u r, svs[i]? = some u → rs[i]? = some r → RowOk ρ w.heap.size w' u r ∧ r.own = true) (hdis : ∀ (i i' : Nat) u u' k, svs[i]? = some u → svs[i']? = some u' → u.v.ownBlock = some k → u'.v.ownBlock = some k → i = i') :
    Rel ρ n X W0 fb (F.rws (mkRs nid rs)) (j.putL nid svs) a w' := by
  have h' := h.more hx
  have hn : ∀ b, nid ≤ b → b < nid + rs.length → j.s b = none := fun b h1 h2 => h.nor b (by have := hr (b - nid) (by omega); rwa [show nid + (b - nid) = b by omega] at this)
  have hs : Sub j (j.putL nid svs) := ⟨fun _ _ hb => hb, fun b v hb => by
    rw [putL_get]
    split
    · rename_i hin
      rw [hn b hin.1 (by omega)] at hb; cases hb
    · exact hb, fun _ _ hb => hb⟩
  obtain ⟨e1, e2⟩ := rws_box (mkRs nid rs) F
  -- a row is an elder one or a new one
  have rows : ∀ b r, (F.rws (mkRs nid rs)).row b = some (some r) → (F.row b = some (some r) ∧ (j.putL nid svs).s b = j.s b ∧ ¬ (nid ≤ b ∧ b < nid + rs.length)) ∨ ∃ i u, b = nid + i ∧ svs[i]? = some u ∧ rs[i]? = some r ∧ (j.putL nid svs).s b = some u := by
    intro b r hF
    rw [mkRs_row] at hF
    rw [putL_get, hl]
    split at hF
    · rename_i hin
      right
      have hi : b - nid < svs.length := by omega
      refine ⟨b - nid, svs[b - nid], by omega, List.getElem?_eq_getElem hi, by simpa using hF, ?_⟩
      rw [if_pos hin, List.getElem?_eq_getElem hi]
    · rename_i hin
      exact .inl ⟨hF, by rw [if_neg hin], hin⟩
  have blk : ∀ (i : Nat) (u : SV) (r : RowOb), svs[i]? = some u → rs[i]? = some r → ∀ k, u.v.ownBlock = some k → w.heap.size ≤ k := fun i u r h1 h2 k hk => ((hok i u r h1 h2).1.owned (hok i u r h1 h2).2 k hk).2
  refine ⟨h'.defers, h'.size, fun t ht => ?_, fun i v hi => by rw [e2]; exact (h'.sav i v hi).imp _root_.id (V.den_sub hs), fun b cs ty hF => ?_, fun b hF => ?_, h'.inj, fun b r hF => ?_, fun b hF => ?_, fun b b' k r s h1 h2 h3 h4 => ?_, fun b b' r1 r2 s1 s2 k h1 h2 h3 h4 h5 h6 h7 => ?_, fun b cs hF => ?_, h'.ext⟩
  · rw [e2]
    obtain ⟨v, h1, h2⟩ := h'.tmp t ht
    exact ⟨v, h1, h2.imp _root_.id (V.den_sub hs)⟩
  · rw [e1] at hF
    obtain ⟨k, vs, h1, h2, h3, h4⟩ := h'.box b cs ty hF
    exact ⟨k, vs, h1, h2, denL_sub hs h3, h4⟩
  · rw [e1] at hF; exact h'.nob b hF
  · rcases rows b r hF with ⟨h1, h2, _⟩ | ⟨i, u, rfl, h1, h2, h3⟩
    · rw [h2]; exact h'.row b r h1
    · exact ⟨u, h3, (hok i u r h1 h2).1.base h.ext.size⟩
  · rw [mkRs_row] at hF
    rw [putL_get, hl]
    split at hF
    · rename_i hin
      exfalso
      rw [List.getElem?_eq_getElem (by omega)] at hF
      cases hF
    · rename_i hin
      rw [if_neg hin]
      exact h.nor b hF
  · have h1' : j.b b = some k := h1
    rcases rows b' r h2 with ⟨g1, g2, _⟩ | ⟨i, u, rfl, g1, g2, g3⟩
    · rw [g2] at h3
      exact h.sep b b' k r s h1' g1 h3 h4
    · rw [g3] at h3; cases h3
      obtain ⟨_, _, _, _, _, _, _, hlt⟩ := h.lt h1'
      have := blk i _ r g1 g2 k (blk_some h4)
      omega
  · rcases rows b r1 h1 with ⟨g1, g2, _⟩ | ⟨i, u, rfl, g1, g2, g3⟩
    · rw [g2] at h4
      rcases rows b' r2 h3 with ⟨q1, q2, _⟩ | ⟨i', u', rfl, q1, q2, q3⟩
      · rw [q2] at h5
        exact h.rsep b b' r1 r2 s1 s2 k g1 h2 q1 h4 h5 h6 h7
      · rw [q3] at h5; cases h5
        obtain ⟨s0, p1, p2⟩ := h.row b r1 g1
        rw [h4] at p1; cases p1
        have := p2.lt k h6
        have := blk i' _ r2 q1 q2 k (blk_some h7)
        omega
    · rw [g3] at h4; cases h4
      rcases rows b' r2 h3 with ⟨q1, q2, _⟩ | ⟨i', u', rfl, q1, q2, q3⟩
      · rw [q2] at h5
        obtain ⟨s0, p1, p2⟩ := h.row b' r2 q1
        rw [h5] at p1; cases p1
        have := p2.lt k h7
        have := blk i _ r1 g1 g2 k (blk_some h6)
        omega
      · rw [q3] at h5; cases h5
        rw [hdis i i' _ _ k g1 q1 (blk_some h6) (blk_some h7)]
  · obtain ⟨k, vs, h1, h2, h3, h4⟩ := h'.fb b cs hF
    exact ⟨k, vs, h1, h2, denL_sub hs h3, h4⟩

theorem Sub.putS {j : J} {nid : Nat} {s : SV} (h : j.s nid = none) : Sub j (j.putS nid s) := ⟨fun _ _ hb => hb, fun b v hb => by
  simp only [J.putS]
  split
  · rename_i e; subst e; rw [h] at hb; cases hb
  · exact hb, fun _ _ hb => hb⟩

theorem Rel.app (h : Rel ρ n X W0 fb F j a w) {w' : World} {nid old : Nat} {r : RowOb} {s s' : SV} (hr : ReOk F nid (.app old r)) (hs : j.s old = some s) (hg : w.grownBy w' s.v.ownBlock) (hok : RowOk ρ W0.heap.size w' s' r) (hblk : s'.v.ownBlock = s.v.ownBlock ∨ s'.v.ownBlock = some w.heap.size) :
    Rel ρ n X W0 fb (F.rws (RE.rs nid (.app old r))) (j.putS nid s') a w' := by
  obtain ⟨⟨q, hq, hown⟩, hro, hnid, hne⟩ := hr
  obtain ⟨hx, hb, hother⟩ := h.turn hq hown hs hg
  have hsub : Sub j (j.putS nid s') := Sub.putS (h.nor nid hnid)
  have rows : ∀ b r', ((F.rw1 (old, none)).rw1 (nid, some r)).row b = some (some r') → (b = nid ∧ r' = r) ∨ (b ≠ nid ∧ b ≠ old ∧ F.row b = some (some r') ∧ (j.putS nid s').s b = j.s b) := by
    intro b r' hF
    simp only [FS.rw1] at hF
    split at hF
    · rename_i e; exact .inl ⟨e, by simpa using hF.symm⟩
    · rename_i e
      split at hF
      · cases hF
      · rename_i e'; exact .inr ⟨e, e', hF, by simp [J.putS, e]⟩
  have snew : (j.putS nid s').s nid = some s' := by simp [J.putS]
  have sold : ∀ b, b ≠ nid → (j.putS nid s').s b = j.s b := fun b e => by simp [J.putS, e]
  show Rel ρ n X W0 fb ((F.rw1 (old, none)).rw1 (nid, some r)) (j.putS nid s') a w'
  refine ⟨h.defers, h.size, fun t ht => ?_, fun i v hi => (h.sav i v hi).imp _root_.id (V.den_sub hsub), fun b cs ty hF => ?_, h.nob, h.inj, fun b r' hF => ?_, fun b hF => ?_, fun b b' k r' s1 h1 h2 h3 h4 => ?_, fun b b' r1 r2 s1 s2 k h1 h2 h3 h4 h5 h6 h7 => ?_, fun b cs hF => ?_, hx⟩
  · obtain ⟨v, h1, h2⟩ := h.tmp t ht
    exact ⟨v, h1, h2.imp _root_.id (V.den_sub hsub)⟩
  · obtain ⟨k, vs, h1, h2, h3, h4⟩ := h.box b cs ty hF
    exact ⟨k, vs, h1, h2, denL_sub hsub h3, by rw [hb b k h1]; exact h4⟩
  · rcases rows b r' hF with ⟨rfl, rfl⟩ | ⟨e1, e2, hF', hs'⟩
    · exact ⟨s', snew, hok⟩
    · rw [hs']
      obtain ⟨s1, h1, h2⟩ := h.row b r' hF'
      exact ⟨s1, h1, h2.kept hg.size (fun k hk => hother b r' s1 k e2 hF' h1 hk)⟩
  · simp only [FS.rw1] at hF
    split at hF
    · cases hF
    · rename_i e
      split at hF
      · cases hF
      · rw [sold b e]; exact h.nor b hF
  · have h1' : j.b b = some k := h1
    obtain ⟨_, _, _, _, _, _, _, hlt⟩ := h.lt h1'
    rcases rows b' r' h2 with ⟨rfl, rfl⟩ | ⟨e1, e2, hF', hs'⟩
    · rw [snew] at h3; cases h3
      rcases hblk with e | e
      · exact h.sep b old k q s h1' hq hs (blk_of hown (e ▸ blk_some h4))
      · have h4 := blk_some h4; rw [e] at h4; cases h4; omega
    · rw [hs'] at h3
      exact h.sep b b' k r' s1 h1' hF' h3 h4
  · rcases rows b r1 h1 with ⟨rfl, rfl⟩ | ⟨e1, e2, hF1, hs1⟩
    · rcases rows b' r2 h3 with ⟨rfl, _⟩ | ⟨e3, e4, hF2, hs2⟩
      · rfl
      · exfalso
        rw [snew] at h4; cases h4
        rw [hs2] at h5
        rcases hblk with e | e
        · exact e4 (h.rsep old b' q r2 s s2 k hq hown hF2 hs h5 (blk_of hown (e ▸ blk_some h6)) h7).symm
        · obtain ⟨s0, p1, p2⟩ := h.row b' r2 hF2
          rw [h5] at p1; cases p1
          have := p2.lt k h7
          have h6 := blk_some h6
          rw [e] at h6; cases h6; omega
    · rw [hs1] at h4
      rcases rows b' r2 h3 with ⟨rfl, _⟩ | ⟨e3, e4, hF2, hs2⟩
      · exfalso
        rw [snew] at h5; cases h5
        rcases hblk with e | e
        · exact e2 (h.rsep b old r1 q s1 s k hF1 h2 hq h4 hs h6 (blk_of hown (e ▸ blk_some h7)))
        · obtain ⟨s0, p1, p2⟩ := h.row b r1 hF1
          rw [h4] at p1; cases p1
          have := p2.lt k h6
          have h7 := blk_some h7
          rw [e] at h7; cases h7; omega
      · rw [hs2] at h5
        exact h.rsep b b' r1 r2 s1 s2 k hF1 h2 hF2 h4 h5 h6 h7
  · obtain ⟨k, vs, h1, h2, h3, h4⟩ := h.fb b cs hF
    refine ⟨k, vs, h1, h2, denL_sub hsub h3, fun o v ho => ?_⟩
    rw [World.cell?_of_block (a := ⟨k, o, none⟩) ((hx.block' k h2).trans (h.ext.block' k h2).symm)]
    exact h4 o v ho

theorem Rel.view (h : Rel ρ n X W0 fb F j a w) {nid old : Nat} {q r : RowOb} {s s' : SV} (hr : ReOk F nid (.view old q r)) (hs : j.s old = some s) (hq : RowOk ρ W0.heap.size w s q) (hok : RowOk ρ W0.heap.size w s' r) (hblk : ∀ k, s'.blk false = some k → s.blk false = some k) :
    Rel ρ n X W0 fb (F.rws (RE.rs nid (.view old q r))) (j.putS nid s') a w := by
  obtain ⟨⟨q0, hq0⟩, hqo, hro, hnid, hne⟩ := hr
  have hsub : Sub j (j.putS nid s') := Sub.putS (h.nor nid hnid)
  have rows : ∀ b r', ((F.rw1 (old, some q)).rw1 (nid, some r)).row b = some (some r') → (b = nid ∧ r' = r) ∨ (b ≠ nid ∧ b = old ∧ r' = q) ∨ (b ≠ nid ∧ b ≠ old ∧ F.row b = some (some r')) := by
    intro b r' hF
    simp only [FS.rw1] at hF
    split at hF
    · rename_i e; exact .inl ⟨e, by simpa using hF.symm⟩
    · rename_i e
      split at hF
      · rename_i e'; exact .inr (.inl ⟨e, e', by simpa using hF.symm⟩)
      · rename_i e'; exact .inr (.inr ⟨e, e', hF⟩)
  have snew : (j.putS nid s').s nid = some s' := by simp [J.putS]
  have sold : ∀ b, b ≠ nid → (j.putS nid s').s b = j.s b := fun b e => by simp [J.putS, e]
  show Rel ρ n X W0 fb ((F.rw1 (old, some q)).rw1 (nid, some r)) (j.putS nid s') a w
  refine ⟨h.defers, h.size, fun t ht => ?_, fun i v hi => (h.sav i v hi).imp _root_.id (V.den_sub hsub), fun b cs ty hF => ?_, h.nob, h.inj, fun b r' hF => ?_, fun b hF => ?_, fun b b' k r' s1 h1 h2 h3 h4 => ?_, fun b b' r1 r2 s1 s2 k h1 h2 h3 h4 h5 h6 h7 => ?_, fun b cs hF => ?_, h.ext⟩
  · obtain ⟨v, h1, h2⟩ := h.tmp t ht
    exact ⟨v, h1, h2.imp _root_.id (V.den_sub hsub)⟩
  · obtain ⟨k, vs, h1, h2, h3, h4⟩ := h.box b cs ty hF
    exact ⟨k, vs, h1, h2, denL_sub hsub h3, h4⟩
  · rcases rows b r' hF with ⟨rfl, rfl⟩ | ⟨e1, rfl, rfl⟩ | ⟨e1, e2, hF'⟩
    · exact ⟨s', snew, hok⟩
    · exact ⟨s, by rw [sold _ e1]; exact hs, hq⟩
    · rw [sold b e1]; exact h.row b r' hF'
  · simp only [FS.rw1] at hF
    split at hF
    · cases hF
    · rename_i e
      split at hF
      · cases hF
      · rw [sold b e]; exact h.nor b hF
  · have h1' : j.b b = some k := h1
    rcases rows b' r' h2 with ⟨rfl, rfl⟩ | ⟨e1, rfl, rfl⟩ | ⟨e1, e2, hF'⟩
    · rw [snew] at h3; cases h3
      exact h.sep b old k q0 s h1' hq0 hs (blk_mono (hblk k (by rw [hro] at h4; exact h4)))
    · rw [sold _ e1, hs] at h3; cases h3
      exact h.sep b _ k q0 s h1' hq0 hs (blk_mono (by rw [hqo] at h4; exact h4))
    · rw [sold b' e1] at h3
      exact h.sep b b' k r' s1 h1' hF' h3 h4
  · rcases rows b r1 h1 with ⟨rfl, rfl⟩ | ⟨e1, rfl, rfl⟩ | ⟨e1, e2, hF1⟩
    · rw [hro] at h2; cases h2
    · rw [hqo] at h2; cases h2
    · rw [sold b e1] at h4
      rcases rows b' r2 h3 with ⟨rfl, rfl⟩ | ⟨e3, rfl, rfl⟩ | ⟨e3, e4, hF2⟩
      · rw [snew] at h5; cases h5
        exact absurd (h.rsep b old r1 q0 s1 s k hF1 h2 hq0 h4 hs h6 (blk_mono (hblk k (by rw [hro] at h7; exact h7)))) e2
      · rw [sold _ e3, hs] at h5; cases h5
        exact h.rsep b _ r1 q0 s1 s k hF1 h2 hq0 h4 hs h6 (blk_mono (by rw [hqo] at h7; exact h7))
      · rw [sold b' e3] at h5
        exact h.rsep b b' r1 r2 s1 s2 k hF1 h2 hF2 h4 h5 h6 h7
  · obtain ⟨k, vs, h1, h2, h3, h4⟩ := h.fb b cs hF
    exact ⟨k, vs, h1, h2, denL_sub hsub h3, h4⟩

/-- What an operation must find as the run has it. -/
structure Sees (n : Nat) (fb : Nat → Option (List C)) (vw : Vw) (o : Oper) (eff : Eff) (F : FS) : Prop where
  ev : ∀ x ∈ o.op.operands.toList, ∀ v, vw.ev x = some v → evF F n x = some v
  rd : ∀ p ∈ eff.rd, ∀ c, vw.ld p.1 p.2 = some c → ldF F p.1 p.2 = some c
  wr : ∀ p ∈ eff.wr, ∃ c, ldF F p.1 p.2.1 = some c
  nw : eff.al ≠ none → F.box vw.nid = none
  rr : ∀ id ∈ eff.rr, ∀ r, vw.rw id = some r → rwF F id = some r
  re : ReOk F vw.nid eff.re
  fb : vw.fb = fb
  one : (eff.al = none ∧ eff.wr = []) ∨ eff.re = .none

theorem ldF_cell (h : Rel ρ n X W0 fb F j a w) {b o : Nat} {c : C} (hc : ldF F b o = some c) : ∃ k v, j.b b = some k ∧ c.den ρ j = some v ∧ w.cell? ⟨k, o, none⟩ = some v ∧ w.frozen? ⟨k, o, none⟩ = false := by
  simp only [ldF, Option.bind_eq_some_iff] at hc
  obtain ⟨x, hx, hc⟩ := hc
  obtain ⟨cs, ty⟩ := x
  obtain ⟨k, vs, h1, h2, h3, h4⟩ := h.box b cs ty hx
  obtain ⟨v, hv, hd⟩ := denL_get h3 o c hc
  exact ⟨k, v, h1, hd, by rw [cell_row h4]; exact hv, frozen_row h4⟩
theorem rwF_row {F : FS} {id : Nat} {r : RowOb} (h : rwF F id = some r) : F.row id = some (some r) := by
  unfold rwF at h
  cases hF : F.row id with
  | none => rw [hF] at h; cases h
  | some x => rw [hF] at h; simp only [Option.bind_some] at h; rw [h]

theorem op_step (h : Rel ρ n X W0 fb F j a w) {vw : Vw} {o : Oper} {eff : Eff} (hok : OpOk P ρ W0.heap.size vw o eff) (hs : Sees n fb vw o eff F) (hd : ∀ d, o.dst = some d → d < n)
    {K : Act → World → Prop} {Q : Exit → Act → World → Prop} (hK : ∀ j' a' w', Rel ρ n X W0 fb (F.app o.dst vw.nid eff) j' a' w' → K a' w') : o.wp P a w K Q := by
  refine hok j a w h.ext.size (fun x hx v hv => h.eval (hs.ev x hx v hv)) (fun p hp c hc => ?_) (fun p hp => ?_) (fun id hid r hr => ?_) (fun b cs hb => ?_) K Q (fun v j' w' hv hdoes => ?_)
  · obtain ⟨k, v, h1, h2, h3, _⟩ := ldF_cell h (hs.rd p hp c hc)
    exact ⟨k, v, h1, h2, h3⟩
  · obtain ⟨c, hc⟩ := hs.wr p hp
    obtain ⟨k, v, h1, _, h3, h4⟩ := ldF_cell h hc
    exact ⟨k, v, h1, h3, h4⟩
  · exact h.row id r (rwF_row (hs.rr id hid r hr))
  · rw [hs.fb] at hb
    obtain ⟨k, vs, h1, h2, h3, h4⟩ := h.fb b cs hb
    exact ⟨k, vs, h1, Nat.lt_of_lt_of_le h2 h.ext.size, h3, h4⟩
  · unfold Does at hdoes
    refine hK j' _ w' ?_
    unfold FS.app
    refine Rel.put ?_ hv hd
    split at hdoes
    · rename_i cs ty hal
      obtain ⟨vs, h1, rfl, rfl⟩ := hdoes
      have hre : eff.re = .none := by
        rcases hs.one with e | e
        · rw [hal] at e; cases e.1
        · exact e
      rw [hal, hre]
      exact h.new h1 (hs.nw (by rw [hal]; simp))
    · rename_i hal
      rw [hal]
      have hre := hs.re
      split at hdoes
      · rename_i hr
        obtain ⟨rfl, w1, h1, h2⟩ := hdoes
        rw [hr]
        exact (h.more h1).wrs h2
      · rename_i id r hr
        have hwr : eff.wr = [] := by
          rcases hs.one with e | e
          · exact e.2
          · rw [hr] at e; cases e
        obtain ⟨rfl, s, h1, h2, h3⟩ := hdoes
        rw [hr] at hre
        rw [hr, hwr]
        exact h.set hre h1 h2 h3
      · rename_i rs hr
        have hwr : eff.wr = [] := by
          rcases hs.one with e | e
          · exact e.2
          · rw [hr] at e; cases e
        obtain ⟨hx, svs, h1, h2, h3, rfl⟩ := hdoes
        rw [hr] at hre
        rw [hr, hwr]
        exact h.made hre hx h1 h2 h3
      · rename_i old r hr
        have hwr : eff.wr = [] := by
          rcases hs.one with e | e
          · exact e.2
          · rw [hr] at e; cases e
        obtain ⟨s, s', h1, h2, h3, h4, rfl⟩ := hdoes
        rw [hr] at hre
        rw [hr, hwr]
        exact h.app hre h1 h2 h3 h4
      · rename_i old q r hr
        have hwr : eff.wr = [] := by
          rcases hs.one with e | e
          · exact e.2
          · rw [hr] at e; cases e
        obtain ⟨rfl, s, s', h1, h2, h3, h4, rfl⟩ := hdoes
        rw [hr] at hre
        rw [hr, hwr]
        exact h.view hre h1 h2 h3 h4
end
end Go.Proofs.Ytgfghplnankgnaa

