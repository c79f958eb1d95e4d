/- The run of an operation is sound: indices, least and greatest, calls; all kinds together. Nothing of the program is in here. -/
import Derived.Test.YtcngfmhhaleoaaaSxF
set_option linter.unusedVariables false
set_option linter.unusedSimpArgs false
namespace Go.Proofs.Ytcngfmhhaleoaaa
open Go.RowKit

section
variable {P : Program} {sp : Spec} {ρ : Env} {G : V → Prop} {cx : Cx} {ev : Operand → Option V} {ld : Nat → Nat → Option C} {nid : Nat} {o : Oper} {k : Eff → Kw → Tr}

theorem pickK_ok {e : E} {n : Nat} {kk : Nat → Kw → Tr} : ∀ (m : Nat) (kw : Kw), m ≤ n → (pickK e n kk m kw).holds sp ρ G → Good sp cx.sm ρ kw → ∃ i kw', i < n ∧ e.I ρ = (i : Int) ∧ (kk i kw').holds sp ρ G ∧ Good sp cx.sm ρ kw'
  | 0, kw, _, h, hg => h.elim
  | m + 1, kw, hm, h, hg => by
    simp only [pickK] at h
    obtain ⟨kw1, h1, g1⟩ := decK_ok _ _ _ h hg
    rw [mkEq_B] at h1
    split at h1
    · rename_i hb
      have hb' : e.I ρ = ((n - (m + 1) : Nat) : Int) := by simpa [E.I] using hb
      exact ⟨n - (m + 1), kw1, by omega, hb', h1, g1⟩
    · exact pickK_ok m kw1 (by omega) h1 g1

theorem snd_indexAddr (hT : ∀ t i, (t, i) ∈ cx.ty → TIok P t i) {t : Nat} {x y : Operand} {kw : Kw} (hop : o.op = .indexAddr t x y) {b off : Nat} (hx : ev x = some (.one (.ptr b off))) {k0 : IntKind} {e : E} (hy : ev y = some (.one (.int k0 e))) {i : TI} (hi : lookN t cx.ty = some i)
    {n et : Nat} (ha : i.arr = some (n, et)) {ie : TI} (hie : lookN et cx.ty = some ie) (h : (pickK e n (fun m kw => k { val := .one (.ptr b (off + m * ie.size)) } kw) n kw).holds sp ρ G) (hg : Good sp cx.sm ρ kw) : Sound P sp ρ G cx ev ld nid o k := by
  obtain ⟨m, kw', hm, he, h1, g1⟩ := pickK_ok n kw (Nat.le_refl _) h hg
  have hu := (hT _ _ (lookN_mem hi)).arr n et ha
  have hs := (hT _ _ (lookN_mem hie)).size
  refine ⟨_, kw', h1, g1, OpOk.pure fun j a w hev _ => ?_⟩
  obtain ⟨kk, hk, hp⟩ := ptr_of (hev x (by simp [hop, Op.operands]) _ hx)
  have hq := one_int (hev y (by simp [hop, Op.operands]) _ hy)
  refine ⟨.pointer (some ⟨kk, off + m * ie.size, none⟩), by simp [V.den, C.den, hk], ?_⟩
  have hlt : (0 : Int) ≤ (m : Int) ∧ (m : Int) < (n : Int) := by omega
  simp [execOp, hop, hp, hq, he, Instr.indexAt, run_underlying hu, Instr.sureAddr, asIntOf, hlt, hs, Sem.run_bind, add_none]
  omega

theorem snd_index (hT : ∀ t i, (t, i) ∈ cx.ty → TIok P t i) {t : Nat} {x y : Operand} {kw : Kw} (hop : o.op = .index t x y) {cs : List C} (hx : ev x = some (.agg cs)) {k0 : IntKind} {e : E} (hy : ev y = some (.one (.int k0 e))) {i : TI} (hi : lookN t cx.ty = some i)
    {n et : Nat} (ha : i.arr = some (n, et)) {ie : TI} (hie : lookN et cx.ty = some ie) (h : (pickK e n (fun m kw => match partV cx et cs (m * ie.size) with | some v => k { val := v } kw | none => .stuck 30) n kw).holds sp ρ G) (hg : Good sp cx.sm ρ kw) : Sound P sp ρ G cx ev ld nid o k := by
  obtain ⟨m, kw', hm, he, h1, g1⟩ := pickK_ok n kw (Nat.le_refl _) h hg
  have hu := (hT _ _ (lookN_mem hi)).arr n et ha
  have hs := (hT _ _ (lookN_mem hie)).size
  split at h1
  · rename_i v hv
    refine ⟨_, kw', h1, g1, OpOk.pure fun j a w hev _ => ?_⟩
    have hd := hev x (by simp [hop, Op.operands]) _ hx
    simp only [V.den, Option.map_eq_some_iff] at hd
    obtain ⟨vs, hvs, hp⟩ := hd
    have hq := one_int (hev y (by simp [hop, Op.operands]) _ hy)
    obtain ⟨u, hu', hr⟩ := part_ok hT hv hvs w
    refine ⟨u, hu', ?_⟩
    have hlt : (0 : Int) ≤ (m : Int) ∧ (m : Int) < (n : Int) := by omega
    simp [execOp, hop, ← hp, hq, he, Instr.index, run_underlying hu, asIntOf, hlt, hs, Sem.run_bind, hr]
    omega
  · exact h1.elim

theorem mm_ok {f : E → E → E} {g : Int → Int → Int} (hf : ∀ a b, (f a b).I ρ = g (a.I ρ) (b.I ρ)) {m2 : Value → Value → Sem Value} {k0 : IntKind} (hm : ∀ x y w, (m2 (.int k0 x) (.int k0 y)).run P w = .ok (.int k0 (g x y)) w) {j : Nat → Option Nat} :
    ∀ (l : List V) (e e' : E) (us : List Value), mmK f k0 e l = some e' → (∀ (i : Nat) x u, l[i]? = some x → us[i]? = some u → x.den ρ j = some u) → us.length = l.length → ∀ w, (us.foldlM m2 (.int k0 (e.I ρ))).run P w = .ok (.int k0 (e'.I ρ)) w
  | [], e, e', us, h, hu, hl, w => by
    cases h
    cases us with
    | nil => simp
    | cons _ _ => cases hl
  | v :: l, e, e', us, h, hu, hl, w => by
    cases us with
    | nil => cases hl
    | cons u us =>
      cases v with
      | one c =>
        cases c with
        | int kd x =>
          simp only [mmK] at h
          split at h
          · rename_i hk
            have := kdSame_eq hk
            subst this
            have h1 := one_int (hu 0 _ u rfl rfl)
            subst h1
            have h2 := mm_ok hf hm l (f e x) e' us h (fun i y u hy hu' => hu (i + 1) y u (by simpa using hy) (by simpa using hu')) (by simpa using hl) w
            rw [hf] at h2
            simp only [List.foldlM_cons, Sem.run_bind, hm, Result.andThen_ok, h2]
          · cases h
        | _ => simp [mmK] at h
      | _ => simp [mmK] at h

theorem map_toList {c : Call} {a : Act} : (c.args.map a.eval).toList = c.args.toList.map a.eval := Array.toList_map ..

theorem snd_mm (mx : Bool) {c : Call} {kw : Kw} (hop : o.op = .call c) (hc : c.callee = .builtin (if mx then .max else .min)) {k0 : IntKind} {e e' : E} {l : List V} (hl : evL ev c.args.toList = some (.one (.int k0 e) :: l)) (he : mmK (if mx then mkMax else mkMin) k0 e l = some e')
    (h : (k { val := .one (.int k0 e') } kw).holds sp ρ G) (hg : Good sp cx.sm ρ kw) : Sound P sp ρ G cx ev ld nid o k := by
  refine ⟨_, kw, h, hg, OpOk.pure fun j a w hev _ => ⟨.int k0 (e'.I ρ), rfl, ?_⟩⟩
  obtain ⟨h1, h2⟩ := evL_ok (j := j) (a := a) hl (fun x hx => hev x (by simp [hop, Op.operands, Call.operands]; exact .inr (by simpa using hx)))
  obtain ⟨u, us, hus⟩ : ∃ u us, c.args.toList.map a.eval = u :: us := by
    cases hm : c.args.toList.map a.eval with
    | nil => rw [hm] at h2; cases h2
    | cons u us => exact ⟨u, us, rfl⟩
  rw [hus] at h1 h2
  have hu := one_int (h1 0 _ u rfl rfl)
  subst hu
  have hlist : (c.args.map a.eval).toList = .int k0 (e.I ρ) :: us := by rw [map_toList, hus]
  cases mx with
  | true =>
    have h3 := mm_ok (P := P) (ρ := ρ) (f := mkMax) (g := max) (mkMax_I ρ) (m2 := Builtin.max2) (k0 := k0) (fun x y w => by simp [Builtin.max2, min_max_int.2]) l e e' us (by simpa using he) (fun i x u hx hu => h1 (i + 1) x u (by simpa using hx) (by simpa using hu)) (by simpa using h2) w
    simp only [execOp, hop, resolve, hc, if_true, Sem.run_bind, Sem.run_pure, Result.andThen_ok, invoke, builtin, Builtin.max_, hlist, h3]
  | false =>
    have h3 := mm_ok (P := P) (ρ := ρ) (f := mkMin) (g := min) (mkMin_I ρ) (m2 := Builtin.min2) (k0 := k0) (fun x y w => by simp [Builtin.min2, min_max_int.1]) l e e' us (by simpa using he) (fun i x u hx hu => h1 (i + 1) x u (by simpa using hx) (by simpa using hu)) (by simpa using h2) w
    simp only [execOp, hop, resolve, hc, Bool.false_eq_true, if_false, Sem.run_bind, Sem.run_pure, Result.andThen_ok, invoke, builtin, Builtin.min_, hlist, h3]

theorem Vk_app {vk : List (Option IntKind)} {ks : List CK} (hv : Vk ρ vk) (hr : ∀ (n : Nat) k, ks[n]? = some (.int k) → inK k (ρ.i (vk.length + n)) = true) : Vk ρ (vk ++ ks.map ckKind) := by
  intro n kd h
  rcases Nat.lt_or_ge n vk.length with hlt | hge
  · rw [List.getElem?_append_left hlt] at h
    exact hv n kd h
  · rw [List.getElem?_append_right hge, List.getElem?_map, Option.map_eq_some_iff] at h
    obtain ⟨c, hc, hk⟩ := h
    cases c with
    | int k' =>
      simp only [ckKind, Option.some.injEq] at hk
      subst hk
      have := hr _ _ hc
      rwa [show vk.length + (n - vk.length) = n by omega] at this
    | bool => cases hk
    | fn _ => cases hk
    | lit _ _ => cases hk

theorem encA_some {vk : List (Option IntKind)} (hv : Vk ρ vk) : ∀ {ss : List (Bool × List CK)} {xs : List V} {e : E}, encA vk ss xs = some e → ∃ us, shVal ss (e.L ρ) = some us
  | [], [], e, h => by cases h; exact ⟨[], rfl⟩
  | s :: ss, x :: xs, e, h => by
    simp only [encA, Option.bind_eq_some_iff] at h
    obtain ⟨e', h1, h2⟩ := h
    obtain ⟨us, h3⟩ := encA_some hv h1
    obtain ⟨v, h5, h6⟩ := encV_ok (j := fun _ => none) hv h2
    exact ⟨v :: us, by simp [shVal, h6, h3]⟩

theorem snd_call (hS : ∀ s ∈ cx.sm, SmOk P sp s) (hkeys : ∀ s ∈ cx.sm, ∀ s' ∈ cx.sm, s.key = s'.key → s = s') {c : Call} {kw : Kw} (hop : o.op = .call c) {f : Operand} (hc : c.callee = .value f) {g : Nat} (hf : ev f = some (.one (.fn g))) {args : List V} (hl : evL ev c.args.toList = some args)
    (h : (callK cx g args kw k).holds sp ρ G) (hg : Good sp cx.sm ρ kw) : Sound P sp ρ G cx ev ld nid o k := by
  unfold callK at h
  split at h
  · exact h.elim
  · rename_i s e hfind
    obtain ⟨hs, hsf, henc⟩ := findSm_ok hfind
    have ok := hS s hs
    have main : ∀ v0 kw', eqs sp ρ s.key v0 (e.L ρ) 0 s.ks → (k { val := resV s v0 } kw').holds sp ρ G → Good sp cx.sm ρ kw' → Sound P sp ρ G cx ev ld nid o k := by
      intro v0 kw' heq hh hg'
      refine ⟨_, kw', hh, hg', fun j a w hev hrd hwr K Q hK => ?_⟩
      obtain ⟨h1, h2⟩ := evL_ok (j := j) (a := a) hl (fun x hx => hev x (by simp [hop, Op.operands, Call.operands]; exact .inr (by simpa using hx)))
      have h3 := encA_ok hg.vk henc _ h1 h2
      have h4 := hev f (by simp [hop, Op.operands, Call.operands, hc]) _ hf
      have h5 : a.eval f = .func (.func g) #[] #[] := (Option.some.inj h4).symm
      have h7 : c.args.map a.eval = (c.args.toList.map a.eval).toArray := by rw [← map_toList]
      have h6 : (execOp a.eval o).run P w = (callFunc s.f (c.args.toList.map a.eval).toArray).run P w := by
        rw [hsf, ← h7]
        simp only [execOp, hop, resolve, hc, h5, Deferred.ofValue, Sem.run_bind, Sem.run_pure, Result.andThen_ok, invoke, Array.empty_append, Array.append_empty]
      rcases ok.calls with ⟨henter, hcalls⟩ | hdir
      · unfold Oper.wp
        rw [h6, henter]
        show Calls P s.f _ w _
        refine (hcalls _ _ h3 w).mono ?_
        rintro e' w' ⟨⟨v, rfl, hv⟩, hx⟩
        exact hK v j w' (V.den_sub (fun _ _ hh => by cases hh) (hv ρ v0 heq)) ⟨rfl, w', hx, rfl⟩
      · obtain ⟨v, hr, hv⟩ := hdir _ _ h3 w
        rw [hr] at h6
        exact wp_val h6 (hK v j w (V.den_sub (fun _ _ hh => by cases hh) (hv ρ v0 heq)) ⟨rfl, w, Ext.refl w, rfl⟩)
    split at h
    · rename_i v0 hlog
      obtain ⟨s', hs', hk', heq⟩ := hg.log _ (findLog_ok hlog)
      have := hkeys s' hs' s hs hk'
      subst this
      exact main v0 kw heq h hg
    · obtain ⟨heq, h⟩ := h
      refine main _ _ heq h ⟨hg.pc, ?_, ?_⟩
      · have h8 : ∃ us, shVal s.args (e.L ρ) = some us := by
          exact encA_some hg.vk henc
        obtain ⟨us, hus⟩ := h8
        exact Vk_app hg.vk (fun n kd hn => ok.rng _ us hus ρ _ heq n kd hn)
      · intro p hp
        rcases List.mem_cons.1 hp with rfl | hp
        · exact ⟨s, hs, rfl, heq⟩
        · exact hg.log p hp

theorem snd_pick {c x y : Operand} {kw : Kw} (hop : o.op = .pick c x y) {e : E} {u v : V} (hc : ev c = some (.one (.bool e))) (hx : ev x = some u) (hy : ev y = some v)
    (h : (decK e (fun b kw => k { val := if b then u else v } kw) kw).holds sp ρ G) (hg : Good sp cx.sm ρ kw) : Sound P sp ρ G cx ev ld nid o k := by
  obtain ⟨kw', h1, g1⟩ := decK_ok _ _ _ h hg
  refine ⟨_, kw', h1, g1, OpOk.pure fun j a w hev _ => ⟨if e.B ρ then a.eval x else a.eval y, ?_, ?_⟩⟩
  · have h2 := hev x (by simp [hop, Op.operands]) _ hx
    have h3 := hev y (by simp [hop, Op.operands]) _ hy
    cases e.B ρ
    · exact h3
    · exact h2
  · have h2 := one_bool (hev c (by simp [hop, Op.operands]) _ hc)
    simp [execOp, hop, h2, asBool, Sem.run_bind]

def setRowV : List Value → Nat → List Value → List Value
  | cs, _, [] => cs
  | cs, off, v :: r => setRowV (cs.set off v) (off + 1) r
theorem setRow_ok {j : Nat → Option Nat} : ∀ {vs : List C} {us : List Value} {cs : List C} {ws : List Value} {off : Nat}, denL ρ j vs = some us → denL ρ j cs = some ws → denL ρ j (setRow cs off vs) = some (setRowV ws off us)
  | [], us, cs, ws, off, h, h' => by cases h; exact h'
  | v :: vs, us, cs, ws, off, h, h' => by
    simp only [denL] at h
    cases hc : v.den ρ j with
    | none => rw [hc] at h; cases h
    | some u =>
      cases hl : denL ρ j vs with
      | none => rw [hc, hl] at h; cases h
      | some l =>
        rw [hc, hl] at h; cases h
        exact setRow_ok (vs := vs) (us := l) hl (denL_set h' off v u hc)
theorem foldl_row (off : Nat) : ∀ (l : List Value) (m : Nat) (cells : Array Value), ((l.zipIdx m).foldl (fun cs (p : Value × Nat) => cs.setIfInBounds (off + p.2) p.1) cells).toList = setRowV cells.toList (off + m) l
  | [], m, cells => rfl
  | v :: l, m, cells => by
    simp only [List.zipIdx_cons, List.foldl_cons]
    rw [foldl_row off l (m + 1)]
    simp [setRowV, Nat.add_assoc]
theorem fill_ok {j : Nat → Option Nat} {pl : Nat → Option (Nat × Nat)} : ∀ (parts : List (Nat × V)) (cs cs' : List C) (us : List (Nat × Value)) (cells : Array Value), fillC pl cs parts = some cs' → denL ρ j cs = some cells.toList → (parts.map (·.1) = us.map (·.1)) →
    (∀ (i : Nat) p u, parts[i]? = some p → us[i]? = some u → p.2.den ρ j = some u.2) → ∃ cells', Instr.fill pl cells us = some cells' ∧ denL ρ j cs' = some cells'.toList
  | [], cs, cs', us, cells, h, hd, hm, hu => by
    cases us with
    | nil => cases h; exact ⟨cells, rfl, hd⟩
    | cons _ _ => simp at hm
  | (i, v) :: parts, cs, cs', us, cells, h, hd, hm, hu => by
    cases us with
    | nil => simp at hm
    | cons u us =>
      obtain ⟨i', u⟩ := u
      simp only [List.map_cons, List.cons.injEq] at hm
      obtain ⟨rfl, hm⟩ := hm
      simp only [fillC] at h
      split at h
      · rename_i off size hp
        split at h
        · rename_i hc
          simp only [Bool.and_eq_true, decide_eq_true_eq] at hc
          obtain ⟨h1, h2, h3⟩ := hc
          have hv := hu 0 _ _ rfl rfl
          have hcells := V.cells_ok hv h1
          have hl1 := denL_length hcells
          have hl2 := denL_length hd
          rw [Nat.eq_of_beq_eq_true h2] at hl1
          simp only [Array.length_toList] at hl1 hl2
          have hrow : denL ρ j (setRow cs off v.cells) = some ((u.cells.zipIdx.foldl (fun cs (p : Value × Nat) => cs.setIfInBounds (off + p.2) p.1) cells)).toList := by
            rw [← Array.foldl_toList, Array.toList_zipIdx, foldl_row]
            exact setRow_ok hcells hd
          obtain ⟨cells', h5, h6⟩ := fill_ok parts _ cs' us _ h hrow hm (fun i p w hp' hw => hu (i + 1) p w (by simpa using hp') (by simpa using hw))
          refine ⟨cells', ?_, h6⟩
          unfold Instr.fill
          have hc1 : ¬ (u.cells.size ≠ size || decide (off + u.cells.size > cells.size)) = true := by simp; omega
          simp only [hp]
          rw [if_neg hc1]
          exact h5
        · cases h
      · cases h
theorem evP_ok {j : Nat → Option Nat} {a : Act} : ∀ {l : List (Nat × Operand)} {vs : List (Nat × V)}, evP ev l = some vs → (∀ x ∈ l.map (·.2), ∀ v, ev x = some v → v.den ρ j = some (a.eval x)) →
    vs.map (·.1) = (l.map fun p => (p.1, a.eval p.2)).map (·.1) ∧ ∀ (i : Nat) p u, vs[i]? = some p → (l.map fun p => (p.1, a.eval p.2))[i]? = some u → p.2.den ρ j = some u.2
  | [], vs, h, hev => by cases h; exact ⟨rfl, fun i p u hp => by simp at hp⟩
  | (n, x) :: l, vs, h, hev => by
    simp only [evP] at h
    cases hc : ev x with
    | none => rw [hc] at h; cases h
    | some v =>
      cases hl : evP ev l with
      | none => rw [hc, hl] at h; cases h
      | some us =>
        rw [hc, hl] at h; cases h
        obtain ⟨h1, h2⟩ := evP_ok (a := a) (j := j) hl (fun y hy => hev y (List.mem_cons_of_mem _ hy))
        refine ⟨by simp [h1], fun i p u hp hu => ?_⟩
        cases i with
        | zero =>
          simp at hp hu
          subst hp hu
          exact hev x List.mem_cons_self v hc
        | succ i => exact h2 i p u (by simpa using hp) (by simpa using hu)
theorem placesOf_ok (hT : ∀ t i, (t, i) ∈ cx.ty → TIok P t i) : ∀ (fs : List Field) (l pl : List (Nat × Nat)), fs.map (fun f => (f.offset, f.type)) = l → placesOf cx.ty l = some pl → ∀ w, (fs.mapM (m := Sem) fun f => do pure (f.offset, ← sizeOf f.type)).run P w = .ok pl w
  | [], l, pl, hl, h, w => by subst hl; cases h; simp
  | f :: fs, l, pl, hl, h, w => by
    subst hl
    simp only [List.map_cons, placesOf] at h
    split at h
    · rename_i i r hi hr
      cases h
      have := (hT _ _ (lookN_mem hi)).size
      rw [List.mapM_cons]
      simp only [Sem.run_bind, this, Result.andThen_ok, Sem.run_pure]
      rw [placesOf_ok hT fs _ r rfl hr w]
      simp
    · cases h

theorem snd_build (hT : ∀ t i, (t, i) ∈ cx.ty → TIok P t i) {t : Nat} {ps : Array (Nat × Operand)} {kw : Kw} (hop : o.op = .build t ps) {parts : List (Nat × V)} (hps : evP ev ps.toList = some parts) {v : V} (hv : buildV cx t parts = some v)
    (h : (k { val := v } kw).holds sp ρ G) (hg : Good sp cx.sm ρ kw) : Sound P sp ρ G cx ev ld nid o k := by
  refine ⟨_, kw, h, hg, OpOk.pure fun j a w hev _ => ?_⟩
  obtain ⟨h1, h2⟩ := evP_ok (a := a) (j := j) hps (fun x hx => hev x (by
    simp only [hop, Op.operands]
    simpa using hx))
  have h3 : (ps.map fun p => (p.1, a.eval p.2)).toList = ps.toList.map fun p => (p.1, a.eval p.2) := Array.toList_map ..
  have hx : execOp a.eval o = (do let v ← Instr.build t (ps.map fun p => (p.1, a.eval p.2)); pure (.value v)) := by simp only [execOp, hop]
  unfold buildV at hv
  split at hv
  · rename_i i hi
    have ht := hT _ _ (lookN_mem hi)
    obtain ⟨z, hz, hzd⟩ := ht.zero
    split at hv
    · rename_i n et ha
      split at hv
      · rename_i ie hie
        rw [Option.map_eq_some_iff] at hv
        obtain ⟨cs, hcs, rfl⟩ := hv
        obtain ⟨cells, h4, h5⟩ := fill_ok (j := j) parts _ cs _ z.cells hcs (hzd ρ j) h1 h2
        refine ⟨.agg cells, by simp [V.den, h5], ?_⟩
        have hs := (hT _ _ (lookN_mem hie)).size
        rw [hx]
        simp [Instr.build, Sem.run_bind, hz, run_underlying (ht.arr n et ha), hs, h3, h4]
      · cases hv
    · rename_i ha
      split at hv
      · rename_i hagg
        split at hv
        · rename_i pl hpl
          rw [Option.map_eq_some_iff] at hv
          obtain ⟨cs, hcs, rfl⟩ := hv
          obtain ⟨cells, h4, h5⟩ := fill_ok (j := j) parts _ cs _ z.cells hcs (hzd ρ j) h1 h2
          refine ⟨.agg cells, by simp [V.den, h5], ?_⟩
          obtain ⟨fs, hfs, hfl⟩ := ht.str hagg ha
          have hm := placesOf_ok hT fs.toList i.fields pl hfl hpl w
          have hm' : (fs.mapM (m := Sem) fun f => do pure (f.offset, ← sizeOf f.type)).run P w = .ok pl.toArray w := by
            rw [Array.mapM_eq_mapM_toList]
            rw [show (List.toArray <$> List.mapM (fun f => (do pure (f.offset, ← sizeOf f.type) : Sem (Nat × Nat))) fs.toList : Sem (Array (Nat × Nat))) = (do let l ← List.mapM (fun f => (do pure (f.offset, ← sizeOf f.type) : Sem (Nat × Nat))) fs.toList; pure l.toArray) from rfl]
            rw [Sem.run_bind, hm]
            rfl
          have h6 : (fun m : Nat => pl.toArray[m]?) = fun m : Nat => pl[m]? := by funext m; simp
          rw [hx]
          simp only [Instr.build, Sem.run_bind, hz, run_underlying hfs, Result.andThen_ok, hm', h3, h6, h4, Sem.run_pure]
        · cases hv
      · cases hv
  · cases hv

/-- All kinds of operations. -/
theorem opK_ok (hT : ∀ t i, (t, i) ∈ cx.ty → TIok P t i) (hS : ∀ s ∈ cx.sm, SmOk P sp s) (hkeys : ∀ s ∈ cx.sm, ∀ s' ∈ cx.sm, s.key = s'.key → s = s') {kw : Kw} (h : (opK cx ev ld nid o.op kw k).holds sp ρ G) (hg : Good sp cx.sm ρ kw) : Sound P sp ρ G cx ev ld nid o k := by
  cases hop : o.op <;> rw [hop] at h <;> simp only [opK] at h
  case move x =>
    split at h
    · rename_i v hv; exact snd_move (.inl hop) hv h hg
    · exact h.elim
  case assign x =>
    split at h
    · rename_i v hv; exact snd_move (.inr hop) hv h hg
    · exact h.elim
  case alloc t =>
    split at h
    · rename_i i hi; exact snd_alloc hT hop hi h hg
    · exact h.elim
  case box t x =>
    split at h
    · rename_i v hv
      split at h
      · rename_i hf; exact snd_box hop hv hf h hg
      · exact h.elim
    · exact h.elim
  case load t x =>
    split at h
    · rename_i b off i hx hi
      split at h
      · rename_i hagg
        split at h
        · rename_i cs hcs; exact snd_load_row hT hop hx hi hagg hcs h hg
        · exact h.elim
      · rename_i hagg
        split at h
        · rename_i c hc; exact snd_load_one hT hop hx hi hagg hc h hg
        · exact h.elim
    · exact h.elim
  case store t x y =>
    split at h
    · rename_i b off v i hx hy hi
      split at h
      · rename_i hq
        simp only [Bool.and_eq_true] at hq
        exact snd_store hT hop hx hy hi hq.1 hq.2.1 hq.2.2 h hg
      · exact h.elim
    · exact h.elim
  case nilCheck x =>
    split at h
    · rename_i b off hx; exact snd_nilCheck hop hx (.inl ⟨b, off, rfl⟩) h hg
    · rename_i g hx; exact snd_nilCheck hop hx (.inr ⟨g, rfl⟩) h hg
    · exact h.elim
    · exact h.elim
  case binOp op xt x y yt =>
    split at h
    · rename_i v u hx hy; exact snd_bin hT hop hx hy h hg
    · exact h.elim
  case unOp op t x =>
    split at h
    · rename_i e hx; exact snd_un hop hx h hg
    · rename_i kd e hx; exact snd_un hop hx h hg
    · rename_i kd e hx; exact snd_un hop hx h hg
    · exact h.elim
  case convert s d x =>
    split at h
    · rename_i k0 e i is hx hi his
      split at h
      · rename_i kd hk; exact snd_conv hT hop hx hi his hk h hg
      · exact h.elim
    · exact h.elim
  case fieldAddr s x f =>
    split at h
    · rename_i b off i hx hi
      split at h
      · rename_i fo ft hf; exact snd_fieldAddr hT hop hx hi hf h hg
      · exact h.elim
    · exact h.elim
  case field s x f =>
    split at h
    · rename_i cs i hx hi
      split at h
      · rename_i fo ft hf
        split at h
        · rename_i v hv; exact snd_field hT hop hx hi hf hv h hg
        · exact h.elim
      · exact h.elim
    · exact h.elim
  case indexAddr t x y =>
    split at h
    · rename_i b off k0 e i hx hy hi
      split at h
      · rename_i n et ha
        split at h
        · rename_i ie hie; exact snd_indexAddr hT hop hx hy hi ha hie h hg
        · exact h.elim
      · exact h.elim
    · exact h.elim
  case index t x y =>
    split at h
    · rename_i cs k0 e i hx hy hi
      split at h
      · rename_i n et ha
        split at h
        · rename_i ie hie; exact snd_index hT hop hx hy hi ha hie h hg
        · exact h.elim
      · exact h.elim
    · exact h.elim
  case pick c x y =>
    split at h
    · rename_i e u v hc hx hy; exact snd_pick hop hc hx hy h hg
    · exact h.elim
  case build t ps =>
    split at h
    · rename_i parts hps
      split at h
      · rename_i v hv; exact snd_build hT hop hps hv h hg
      · exact h.elim
    · exact h.elim
  case extract x n =>
    split at h
    · rename_i vs hx
      split at h
      · rename_i cs hp; exact snd_extract hop hx hp (.inl ⟨cs, rfl, rfl⟩) h hg
      · rename_i c hp; exact snd_extract hop hx hp (.inr ⟨c, rfl, rfl⟩) h hg
      · exact h.elim
    · exact h.elim
  case call c =>
    split at h
    · rename_i f hc
      split at h
      · rename_i g args hf hl; exact snd_call hS hkeys hop hc hf hl h hg
      · exact h.elim
    · rename_i hc
      split at h
      · rename_i k0 e l hl
        split at h
        · rename_i e' he; exact snd_mm false hop hc hl he h hg
        · exact h.elim
      · exact h.elim
    · rename_i hc
      split at h
      · rename_i k0 e l hl
        split at h
        · rename_i e' he; exact snd_mm true hop hc hl he h hg
        · exact h.elim
      · exact h.elim
    · exact h.elim
  all_goals exact h.elim
end
end Go.Proofs.Ytcngfmhhaleoaaa
