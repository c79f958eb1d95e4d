/- Texts SyI, SyJ, SyJ2 in one. -/
import Derived.Test.YtmkaphfdgdkaoaaSyZh
import Derived.Orders
/- A region of operations in whatever order it draws: the run in the order of the text tells what every other one comes to. Nothing of the program is in here. -/
set_option linter.unusedVariables false
set_option linter.unusedSimpArgs false
namespace Go.Proofs.Ytmkaphfdgdkaoaa
open Go.RowKit

structure Rec where
  o : Oper
  want : Bool
  nid : Nat
  eff : Eff

def FS.rec' (F : FS) (r : Rec) : FS := F.app r.o.dst r.nid r.eff
def opTs : List Operand → List Nat
  | [] => []
  | .tmp t :: l => t :: opTs l
  | _ :: l => opTs l
theorem opTs_mem {t : Nat} : ∀ {l : List Operand}, .tmp t ∈ l → t ∈ opTs l
  | x :: l, h => by
    rcases List.mem_cons.1 h with rfl | h
    · exact List.mem_cons_self
    · have ih := opTs_mem h
      cases x with
      | tmp u => exact List.mem_cons_of_mem _ ih
      | _ => exact ih
def gTs (ops : Array Oper) (o : Oper) : List Nat :=
  match o.guard with
  | none => []
  | some (g, _) => ((ops[g]?).bind (·.dst)).toList
def Rec.ts (ops : Array Oper) (r : Rec) : List Nat := opTs r.o.op.operands.toList ++ gTs ops r.o

def hasN (t : Nat) : List Nat → Bool
  | [] => false
  | x :: l => Nat.beq x t || hasN t l
def hasP (b o : Nat) : List (Nat × Nat) → Bool
  | [] => false
  | (x, y) :: l => (Nat.beq x b && Nat.beq y o) || hasP b o l
theorem hasN_iff {t : Nat} {l : List Nat} : hasN t l = false ↔ t ∉ l := by
  induction l with
  | nil => simp [hasN]
  | cons x l ih =>
    simp only [hasN, Bool.or_eq_false_iff, ih, List.mem_cons, not_or]
    constructor
    · rintro ⟨h1, h2⟩
      exact ⟨fun e => by rw [e] at h1; simp at h1, h2⟩
    · rintro ⟨h1, h2⟩
      refine ⟨?_, h2⟩
      cases h : x.beq t
      · rfl
      · exact absurd (Nat.eq_of_beq_eq_true h).symm h1
theorem hasP_iff {b o : Nat} {l : List (Nat × Nat)} : hasP b o l = false ↔ (b, o) ∉ l := by
  induction l with
  | nil => simp [hasP]
  | cons x l ih =>
    obtain ⟨x, y⟩ := x
    simp only [hasP, Bool.or_eq_false_iff, ih, List.mem_cons, not_or, Bool.and_eq_false_iff]
    constructor
    · rintro ⟨h1, h2⟩
      refine ⟨fun e => ?_, h2⟩
      cases e
      rcases h1 with h1 | h1 <;> simp at h1
    · rintro ⟨h1, h2⟩
      refine ⟨?_, h2⟩
      cases h : x.beq b
      · exact .inl rfl
      · cases h' : y.beq o
        · exact .inr rfl
        · exact absurd (by rw [Nat.eq_of_beq_eq_true h, Nat.eq_of_beq_eq_true h']) h1

def wrC (l : List (Nat × Nat × C)) : List (Nat × Nat) := l.map fun p => (p.1, p.2.1)
def Rec.rid (r : Rec) : List Nat := (r.eff.re.rs r.nid).map (·.1)
def Rec.touch (r : Rec) : List Nat := r.eff.rd.map (·.1) ++ r.eff.wr.map (·.1)
def Rec.alid (r : Rec) : List Nat := match r.eff.al with | some _ => [r.nid] | none => []
/-- Neither minds whether the other one has been. -/
def indep (ops : Array Oper) (r s : Rec) : Bool :=
  (r.o.dst.toList.all fun d => !hasN d (s.ts ops) && !hasN d s.o.dst.toList) && (s.o.dst.toList.all fun d => !hasN d (r.ts ops)) &&
  ((wrC r.eff.wr).all fun p => !hasP p.1 p.2 s.eff.rd && !hasP p.1 p.2 (wrC s.eff.wr)) && ((wrC s.eff.wr).all fun p => !hasP p.1 p.2 r.eff.rd) &&
  (r.alid.all fun b => !hasN b s.touch && !hasN b s.alid) && (s.alid.all fun b => !hasN b r.touch) &&
  (r.rid.all fun b => !hasN b s.eff.rr && !hasN b s.rid) && (s.rid.all fun b => !hasN b r.eff.rr)

structure Indep (ops : Array Oper) (r s : Rec) : Prop where
  d1 : ∀ d, r.o.dst = some d → d ∉ s.ts ops
  d2 : ∀ d, r.o.dst = some d → s.o.dst ≠ some d
  d3 : ∀ d, s.o.dst = some d → d ∉ r.ts ops
  w1 : ∀ p ∈ r.eff.wr, (p.1, p.2.1) ∉ s.eff.rd
  w2 : ∀ p ∈ r.eff.wr, ∀ q ∈ s.eff.wr, (p.1, p.2.1) ≠ (q.1, q.2.1)
  w3 : ∀ p ∈ s.eff.wr, (p.1, p.2.1) ∉ r.eff.rd
  a1 : r.eff.al ≠ none → r.nid ∉ s.touch
  a2 : r.eff.al ≠ none → s.eff.al ≠ none → r.nid ≠ s.nid
  a3 : s.eff.al ≠ none → s.nid ∉ r.touch
  r1 : ∀ b ∈ r.rid, b ∉ s.eff.rr
  r2 : ∀ b ∈ r.rid, b ∉ s.rid
  r3 : ∀ b ∈ s.rid, b ∉ r.eff.rr

theorem indep_ok {ops : Array Oper} {r s : Rec} (h : indep ops r s = true) : Indep ops r s := by
  simp only [indep, Bool.and_eq_true, List.all_eq_true, Bool.not_eq_true', hasN_iff, hasP_iff, Option.mem_toList] at h
  obtain ⟨⟨⟨⟨⟨⟨⟨h1, h2⟩, h3⟩, h4⟩, h5⟩, h6⟩, h7⟩, h8⟩ := h
  have hal : ∀ {x : Rec}, x.eff.al ≠ none → x.nid ∈ x.alid := fun {x} hx => by
    unfold Rec.alid
    split
    · simp
    · rename_i hn; exact absurd hn hx
  refine ⟨fun d hd => (h1 d hd).1, fun d hd => (h1 d hd).2, fun d hd => h2 d hd, fun p hp => (h3 _ (List.mem_map.2 ⟨p, hp, rfl⟩)).1, fun p hp q hq e => (h3 _ (List.mem_map.2 ⟨p, hp, rfl⟩)).2 (List.mem_map.2 ⟨q, hq, e.symm⟩),
    fun p hp => h4 _ (List.mem_map.2 ⟨p, hp, rfl⟩), fun hx => (h5 _ (hal hx)).1, fun hx hy e => (h5 _ (hal hx)).2 (e ▸ hal hy), fun hx => h6 _ (hal hx), fun b hb => (h7 b hb).1, fun b hb => (h7 b hb).2, h8⟩
theorem Indep.symm {ops : Array Oper} {r s : Rec} (h : Indep ops r s) : Indep ops s r :=
  ⟨h.d3, fun d hd e => h.d2 d e hd, h.d1, h.w3, fun p hp q hq e => h.w2 q hq p hp e.symm, h.w1, h.a3, fun hx hy e => h.a2 hy hx e.symm, h.a1, h.r3, fun b hb hb' => h.r2 b hb' hb, h.r1⟩

/-! ### Cells behind writes -/
theorem ldF_wr (F : FS) (p : Nat × Nat × C) (b o : Nat) : ldF (F.wr p) b o = if b = p.1 ∧ o = p.2.1 then (ldF F b o).map (fun _ => p.2.2) else ldF F b o := by
  unfold ldF FS.wr
  by_cases hb : b = p.1
  · simp only [hb, if_true, true_and]
    cases F.box p.1 with
    | none => simp
    | some x =>
      simp only [Option.map_some, Option.bind_some, List.getElem?_set]
      by_cases ho : o = p.2.1
      · subst ho
        simp only [if_true]
        split
        · rename_i hlt
          simp [List.getElem?_eq_getElem hlt]
        · rename_i hlt
          simp [List.getElem?_eq_none (Nat.le_of_not_lt hlt)]
      · rw [if_neg (fun e : p.2.1 = o => ho e.symm), if_neg ho]
  · simp [hb]
theorem ldF_wrs_other : ∀ {l : List (Nat × Nat × C)} {F : FS} {b o : Nat}, (∀ p ∈ l, (p.1, p.2.1) ≠ (b, o)) → ldF (F.wrs l) b o = ldF F b o
  | [], _, _, _, _ => rfl
  | p :: l, F, b, o, h => by
    have h1 := ldF_wrs_other (l := l) (F := F.wr p) (b := b) (o := o) (fun q hq => h q (List.mem_cons_of_mem _ hq))
    have h2 := h p List.mem_cons_self
    show ldF ((F.wr p).wrs l) b o = _
    rw [h1, ldF_wr, if_neg (fun e => h2 (by rw [e.1, e.2]))]
theorem ldF_wrs_congr : ∀ {l : List (Nat × Nat × C)} {F F' : FS} {b o : Nat}, ldF F b o = ldF F' b o → ldF (F.wrs l) b o = ldF (F'.wrs l) b o
  | [], _, _, _, _, h => h
  | p :: l, F, F', b, o, h => by
    show ldF ((F.wr p).wrs l) b o = ldF ((F'.wr p).wrs l) b o
    exact ldF_wrs_congr (by rw [ldF_wr, ldF_wr, h])
theorem ldF_wrs_some : ∀ {l : List (Nat × Nat × C)} {F : FS} {b o : Nat}, (ldF (F.wrs l) b o).isSome = (ldF F b o).isSome
  | [], _, _, _ => rfl
  | p :: l, F, b, o => by
    have h1 : (ldF ((F.wr p).wrs l) b o).isSome = _ := ldF_wrs_some (l := l)
    show (ldF ((F.wr p).wrs l) b o).isSome = _
    rw [h1, ldF_wr]
    split <;> simp
theorem ldF_new (F : FS) (nid : Nat) (x : List C × Nat) (b o : Nat) : ldF (F.new nid x) b o = if b = nid then x.1[o]? else ldF F b o := by
  unfold ldF FS.new
  by_cases h : b = nid <;> simp [h]
theorem ldF_put (F : FS) (d : Option Nat) (v : V) (b o : Nat) : ldF (F.put d v) b o = ldF F b o := rfl
theorem box_wrs_none : ∀ {l : List (Nat × Nat × C)} {F : FS} {b : Nat}, (F.wrs l).box b = none ↔ F.box b = none
  | [], _, _ => Iff.rfl
  | p :: l, F, b => by
    have h1 : ((F.wr p).wrs l).box b = none ↔ _ := box_wrs_none (l := l)
    show ((F.wr p).wrs l).box b = none ↔ _
    rw [h1]
    unfold FS.wr
    by_cases h : b = p.1 <;> simp [h]

/-! ### Agreement -/
structure Agree (ops : Array Oper) (r : Rec) (F F' : FS) : Prop where
  t : ∀ t ∈ r.ts ops, F.tmp t = F'.tmp t
  rd : ∀ p ∈ r.eff.rd, ldF F p.1 p.2 = ldF F' p.1 p.2
  wr : ∀ p ∈ r.eff.wr, (ldF F p.1 p.2.1).isSome = (ldF F' p.1 p.2.1).isSome
  nw : r.eff.al ≠ none → (F.box r.nid = none ↔ F'.box r.nid = none)
  row : ∀ b ∈ r.eff.rr ++ r.rid, F.row b = F'.row b

theorem tmp_app (F : FS) (d : Option Nat) (nid : Nat) (eff : Eff) (t : Nat) : (F.app d nid eff).tmp t = if d = some t then eff.val else F.tmp t := by
  unfold FS.app FS.put
  dsimp only
  by_cases h : d = some t
  · simp [h]
  · simp only [h, if_false]
    rw [(rws_box _ _).2]
    split
    · rfl
    · have : ∀ (l : List (Nat × Nat × C)) (F : FS), (F.wrs l).tmp = F.tmp := by
        intro l
        induction l with
        | nil => intro F; rfl
        | cons p l ih => intro F; exact ih (F.wr p)
      rw [this]
theorem ldF_rws (F : FS) (l : List (Nat × Option RowOb)) (b o : Nat) : ldF (F.rws l) b o = ldF F b o := by unfold ldF; rw [(rws_box l F).1]
theorem ldF_app (F : FS) (d : Option Nat) (nid : Nat) (eff : Eff) (b o : Nat) : ldF (F.app d nid eff) b o = match eff.al with | some x => if b = nid then x.1[o]? else ldF F b o | none => ldF (F.wrs eff.wr) b o := by
  unfold FS.app
  rw [ldF_put, ldF_rws]
  cases eff.al with
  | some x => exact ldF_new F nid x b o
  | none => rfl
theorem box_app_none (F : FS) (d : Option Nat) (nid : Nat) (eff : Eff) (b : Nat) : (F.app d nid eff).box b = none ↔ match eff.al with | some _ => b ≠ nid ∧ F.box b = none | none => F.box b = none := by
  unfold FS.app FS.put
  dsimp only
  rw [(rws_box _ _).1]
  cases eff.al with
  | some x =>
    unfold FS.new
    by_cases h : b = nid <;> simp [h]
  | none => exact box_wrs_none
theorem wrs_row : ∀ (l : List (Nat × Nat × C)) (F : FS), (F.wrs l).row = F.row
  | [], _ => rfl
  | p :: l, F => wrs_row l (F.wr p)
theorem rws_other : ∀ (l : List (Nat × Option RowOb)) (F : FS) (b : Nat), b ∉ l.map (·.1) → (F.rws l).row b = F.row b
  | [], _, _, _ => rfl
  | p :: l, F, b, h => by
    simp only [List.map_cons, List.mem_cons, not_or] at h
    have h1 := rws_other l (F.rw1 p) b h.2
    show ((F.rw1 p).rws l).row b = _
    rw [h1]
    simp [FS.rw1, h.1]
theorem rws_congr : ∀ (l : List (Nat × Option RowOb)) (F F' : FS) (b : Nat), F.row b = F'.row b → (F.rws l).row b = (F'.rws l).row b
  | [], _, _, _, h => h
  | p :: l, F, F', b, h => rws_congr l (F.rw1 p) (F'.rw1 p) b (by simp only [FS.rw1]; split <;> simp_all)
theorem row_app (F : FS) (d : Option Nat) (nid : Nat) (eff : Eff) : (F.app d nid eff).row = (F.rws (eff.re.rs nid)).row := by
  unfold FS.app FS.put
  dsimp only
  funext b
  apply rws_congr
  split
  · rfl
  · rw [wrs_row]

theorem Agree.refl (ops : Array Oper) (r : Rec) (F : FS) : Agree ops r F F := ⟨fun _ _ => rfl, fun _ _ => rfl, fun _ _ => rfl, fun _ => Iff.rfl, fun _ _ => rfl⟩
theorem Agree.trans {ops : Array Oper} {r : Rec} {F F' F'' : FS} (h : Agree ops r F F') (h' : Agree ops r F' F'') : Agree ops r F F'' :=
  ⟨fun t ht => (h.t t ht).trans (h'.t t ht), fun p hp => (h.rd p hp).trans (h'.rd p hp), fun p hp => (h.wr p hp).trans (h'.wr p hp), fun hx => (h.nw hx).trans (h'.nw hx), fun b hb => (h.row b hb).trans (h'.row b hb)⟩
theorem Agree.symm {ops : Array Oper} {r : Rec} {F F' : FS} (h : Agree ops r F F') : Agree ops r F' F :=
  ⟨fun t ht => (h.t t ht).symm, fun p hp => (h.rd p hp).symm, fun p hp => (h.wr p hp).symm, fun hx => (h.nw hx).symm, fun b hb => (h.row b hb).symm⟩
theorem Agree.congr {ops : Array Oper} {r s : Rec} {F F' : FS} (h : Agree ops r F F') : Agree ops r (F.rec' s) (F'.rec' s) := by
  unfold FS.rec'
  refine ⟨fun t ht => by rw [tmp_app, tmp_app, h.t t ht], fun p hp => ?_, fun p hp => ?_, fun hx => ?_, fun b hb => by rw [row_app, row_app]; exact rws_congr _ _ _ b (h.row b hb)⟩
  · rw [ldF_app, ldF_app]
    split
    · rw [h.rd p hp]
    · exact ldF_wrs_congr (h.rd p hp)
  · rw [ldF_app, ldF_app]
    split
    · split
      · rfl
      · exact h.wr p hp
    · rw [ldF_wrs_some, ldF_wrs_some]; exact h.wr p hp
  · rw [box_app_none, box_app_none]
    split
    · rw [h.nw hx]
    · exact h.nw hx
theorem Agree.step {ops : Array Oper} {r s : Rec} (hi : Indep ops s r) (F : FS) : Agree ops r F (F.rec' s) := by
  unfold FS.rec'
  refine ⟨fun t ht => ?_, fun p hp => ?_, fun p hp => ?_, fun hx => ?_, fun b hb => ?_⟩
  · rw [tmp_app, if_neg (fun e => hi.d1 t e ht)]
  · rw [ldF_app]
    split
    · rename_i x hal
      rw [if_neg (fun e => hi.a1 (by rw [hal]; simp) (by rw [← e]; exact List.mem_append_left _ (List.mem_map.2 ⟨p, hp, rfl⟩)))]
    · exact (ldF_wrs_other (fun q hq e => hi.w1 q hq (by rw [e]; exact hp))).symm
  · rw [ldF_app]
    split
    · rename_i x hal
      rw [if_neg (fun e => hi.a1 (by rw [hal]; simp) (by rw [← e]; exact List.mem_append_right _ (List.mem_map.2 ⟨p, hp, rfl⟩)))]
    · rw [ldF_wrs_some]
  · rw [box_app_none]
    split
    · rename_i x hal
      constructor
      · intro h; exact ⟨fun e => hi.a2 (by rw [hal]; simp) hx e.symm, h⟩
      · exact fun h => h.2
    · exact Iff.rfl
  · rw [row_app, rws_other]
    intro hm
    rcases List.mem_append.1 hb with hb | hb
    · exact hi.r1 b hm hb
    · exact hi.r2 b hm hb

/-! ### Two that mind each other not go either way -/
theorem wr_comm (F : FS) (p q : Nat × Nat × C) (h : (p.1, p.2.1) ≠ (q.1, q.2.1)) : (F.wr p).wr q = (F.wr q).wr p := by
  refine FS.ext' (fun _ => rfl) (fun b => ?_) (fun _ => rfl)
  unfold FS.wr
  dsimp only
  by_cases h1 : b = p.1
  · by_cases h2 : b = q.1
    · have hpq : p.1 = q.1 := h1.symm.trans h2
      have ho : p.2.1 ≠ q.2.1 := fun e => h (by rw [hpq, e])
      simp only [h1, hpq, if_true]
      cases F.box q.1 with
      | none => rfl
      | some x => simp [List.set_comm _ _ ho]
    · simp [h1, h2, show ¬ p.1 = q.1 from fun e => h2 (h1.trans e)]
  · by_cases h2 : b = q.1
    · simp [h1, h2, show ¬ q.1 = p.1 from fun e => h1 (h2.trans e)]
    · simp [h1, h2]
theorem wr_wrs (p : Nat × Nat × C) : ∀ (l : List (Nat × Nat × C)) (F : FS), (∀ q ∈ l, (p.1, p.2.1) ≠ (q.1, q.2.1)) → (F.wr p).wrs l = (F.wrs l).wr p
  | [], _, _ => rfl
  | q :: l, F, h => by
    show ((F.wr p).wr q).wrs l = ((F.wr q).wrs l).wr p
    rw [wr_comm F p q (h q List.mem_cons_self)]
    exact wr_wrs p l (F.wr q) (fun x hx => h x (List.mem_cons_of_mem _ hx))
theorem wrs_wrs : ∀ (l m : List (Nat × Nat × C)) (F : FS), (∀ p ∈ l, ∀ q ∈ m, (p.1, p.2.1) ≠ (q.1, q.2.1)) → (F.wrs l).wrs m = (F.wrs m).wrs l
  | [], _, _, _ => rfl
  | p :: l, m, F, h => by
    show ((F.wr p).wrs l).wrs m = ((F.wrs m).wr p).wrs l
    rw [wrs_wrs l m (F.wr p) (fun x hx => h x (List.mem_cons_of_mem _ hx)), wr_wrs p m F (h p List.mem_cons_self)]
theorem new_wrs (nid : Nat) (x : List C × Nat) : ∀ (l : List (Nat × Nat × C)) (F : FS), (∀ q ∈ l, q.1 ≠ nid) → (F.new nid x).wrs l = (F.wrs l).new nid x
  | [], _, _ => rfl
  | q :: l, F, h => by
    show ((F.new nid x).wr q).wrs l = ((F.wr q).wrs l).new nid x
    have h1 := h q List.mem_cons_self
    have : (F.new nid x).wr q = (F.wr q).new nid x := by
      refine FS.ext' (fun _ => rfl) (fun b => ?_) (fun _ => rfl)
      unfold FS.wr FS.new
      dsimp only
      by_cases hb : b = nid
      · simp [hb, show ¬ nid = q.1 from fun e => h1 e.symm]
      · simp [hb]
    rw [this]
    exact new_wrs nid x l (F.wr q) (fun y hy => h y (List.mem_cons_of_mem _ hy))
theorem put_wrs (d : Option Nat) (v : V) : ∀ (l : List (Nat × Nat × C)) (F : FS), (F.put d v).wrs l = (F.wrs l).put d v
  | [], _ => rfl
  | q :: l, F => put_wrs d v l (F.wr q)

theorem put_rws (d : Option Nat) (v : V) : ∀ (l : List (Nat × Option RowOb)) (F : FS), (F.put d v).rws l = (F.rws l).put d v
  | [], _ => rfl
  | q :: l, F => put_rws d v l (F.rw1 q)
theorem rws_wrs (l : List (Nat × Option RowOb)) (m : List (Nat × Nat × C)) (F : FS) : (F.rws l).wrs m = (F.wrs m).rws l := by
  refine FS.ext' (fun t => ?_) (fun b => ?_) (fun b => ?_)
  · have t1 : ∀ (m : List (Nat × Nat × C)) (F : FS), (F.wrs m).tmp = F.tmp := by
      intro m
      induction m with
      | nil => intro F; rfl
      | cons p m ih => intro F; exact ih (F.wr p)
    rw [t1, (rws_box l F).2, (rws_box l _).2, t1]
  · have b1 : ∀ (m : List (Nat × Nat × C)) (F F' : FS), F.box = F'.box → (F.wrs m).box = (F'.wrs m).box := by
      intro m
      induction m with
      | nil => intro F F' h; exact h
      | cons p m ih => intro F F' h; exact ih _ _ (by simp only [FS.wr, h])
    rw [(rws_box l _).1, b1 m (F.rws l) F (rws_box l F).1]
  · rw [wrs_row]
    exact rws_congr l F (F.wrs m) b (by rw [wrs_row])
theorem rws_new (l : List (Nat × Option RowOb)) (nid : Nat) (x : List C × Nat) (F : FS) : (F.rws l).new nid x = (F.new nid x).rws l := by
  refine FS.ext' (fun t => ?_) (fun b => ?_) (fun b => ?_)
  · rw [(rws_box l _).2]; exact congrFun (rws_box l F).2 t
  · rw [(rws_box l _).1]
    simp only [FS.new, (rws_box l F).1]
  · exact rws_congr l F (F.new nid x) b rfl
theorem rws_rws : ∀ (l m : List (Nat × Option RowOb)) (F : FS), (∀ b ∈ l.map (·.1), b ∉ m.map (·.1)) → (F.rws l).rws m = (F.rws m).rws l
  | l, m, F, h => by
    refine FS.ext' (fun t => ?_) (fun b => ?_) (fun b => ?_)
    · rw [(rws_box m _).2, (rws_box l _).2, (rws_box l _).2, (rws_box m _).2]
    · rw [(rws_box m _).1, (rws_box l _).1, (rws_box l _).1, (rws_box m _).1]
    · by_cases hl : b ∈ l.map (·.1)
      · rw [rws_other m _ b (h b hl)]
        exact rws_congr l F (F.rws m) b (rws_other m F b (h b hl)).symm
      · rw [rws_other l _ b hl]
        exact rws_congr m (F.rws l) F b (rws_other l F b hl)

/-- What is done to boxes. -/
def Rec.bx (r : Rec) (F : FS) : FS := match r.eff.al with | some x => F.new r.nid x | none => F.wrs r.eff.wr
theorem rec_eq (r : Rec) (F : FS) : F.rec' r = ((r.bx F).rws (r.eff.re.rs r.nid)).put r.o.dst r.eff.val := rfl
theorem bx_put (r : Rec) (d : Option Nat) (v : V) (F : FS) : r.bx (F.put d v) = (r.bx F).put d v := by
  unfold Rec.bx
  split
  · rfl
  · exact put_wrs d v _ F
theorem bx_rws (r : Rec) (l : List (Nat × Option RowOb)) (F : FS) : r.bx (F.rws l) = (r.bx F).rws l := by
  unfold Rec.bx
  split
  · exact rws_new l _ _ F
  · exact rws_wrs l _ F
theorem bx_comm {ops : Array Oper} {r s : Rec} (h : Indep ops r s) (F : FS) : s.bx (r.bx F) = r.bx (s.bx F) := by
  unfold Rec.bx
  cases hr : r.eff.al with
  | some x =>
    cases hs : s.eff.al with
    | some y =>
      refine FS.ext' (fun _ => rfl) (fun b => ?_) (fun _ => rfl)
      unfold FS.new
      dsimp only
      have hne := h.a2 (by rw [hr]; simp) (by rw [hs]; simp)
      by_cases h1 : b = s.nid <;> by_cases h2 : b = r.nid <;> simp [h1, h2]
      · exact absurd (h2.symm.trans h1) hne
      · intro e; exact absurd e.symm hne
      · intro e; exact absurd e hne
    | none =>
      have hq : ∀ q ∈ s.eff.wr, q.1 ≠ r.nid := fun q hq e => h.a1 (by rw [hr]; simp) (by rw [← e]; exact List.mem_append_right _ (List.mem_map.2 ⟨q, hq, rfl⟩))
      exact new_wrs _ _ _ F hq
  | none =>
    cases hs : s.eff.al with
    | some y =>
      have hq : ∀ q ∈ r.eff.wr, q.1 ≠ s.nid := fun q hq e => h.a3 (by rw [hs]; simp) (by rw [← e]; exact List.mem_append_right _ (List.mem_map.2 ⟨q, hq, rfl⟩))
      exact (new_wrs _ _ _ F hq).symm
    | none => exact wrs_wrs _ _ F h.w2
theorem rec_comm {ops : Array Oper} {r s : Rec} (h : Indep ops r s) (F : FS) : (F.rec' r).rec' s = (F.rec' s).rec' r := by
  have hp : ∀ F : FS, (F.put r.o.dst r.eff.val).put s.o.dst s.eff.val = (F.put s.o.dst s.eff.val).put r.o.dst r.eff.val := by
    intro F
    refine FS.ext' (fun t => ?_) (fun _ => rfl) (fun _ => rfl)
    unfold FS.put
    dsimp only
    by_cases h1 : s.o.dst = some t <;> by_cases h2 : r.o.dst = some t <;> simp [h1, h2]
    exact absurd h1 (h.d2 t h2)
  rw [rec_eq s, rec_eq r, rec_eq r, rec_eq s, bx_put, bx_rws, put_rws, hp, bx_comm h, rws_rws _ _ _ (fun b hb => h.r2 b hb), bx_put, bx_rws, put_rws]
end Go.Proofs.Ytmkaphfdgdkaoaa

/- A region of operations, in the order of the text or in whatever order it draws. Nothing of the program is in here. -/
set_option linter.unusedVariables false
set_option linter.unusedSimpArgs false
namespace Go.Proofs.Ytmkaphfdgdkaoaa
open Go.RowKit

def part (sel : Nat → Bool) : Nat → List Rec → FS → FS
  | _, [], F => F
  | i, r :: l, F => part sel (i + 1) l (if sel i then F.rec' r else F)
def full (l : List Rec) (F : FS) : FS := l.foldl FS.rec' F

section
variable {P : Program} {ρ : Env} {n : Nat} {X : List Value} {W0 : World} {fb : Nat → Option (List C)} {ops : Array Oper}

theorem part_append (sel : Nat → Bool) : ∀ (l m : List Rec) (i : Nat) (F : FS), part sel i (l ++ m) F = part sel (i + l.length) m (part sel i l F)
  | [], m, i, F => rfl
  | r :: l, m, i, F => by
    simp only [List.cons_append, part, List.length_cons]
    rw [part_append sel l m (i + 1)]
    congr 1
    omega
theorem part_full {sel : Nat → Bool} : ∀ (l : List Rec) (i : Nat) (F : FS), (∀ m, m < l.length → sel (i + m) = true) → part sel i l F = full l F
  | [], _, _, _ => rfl
  | r :: l, i, F, h => by
    have h0 := h 0 (by simp)
    simp only [Nat.add_zero] at h0
    simp only [part, h0, if_true, full, List.foldl_cons]
    exact part_full l (i + 1) _ (fun m hm => by rw [Nat.add_assoc, Nat.add_comm 1 m]; exact h (m + 1) (by simpa using hm))
theorem part_none {sel : Nat → Bool} : ∀ (l : List Rec) (i : Nat) (F : FS), (∀ m, m < l.length → sel (i + m) = false) → part sel i l F = F
  | [], _, _, _ => rfl
  | r :: l, i, F, h => by
    have h0 := h 0 (by simp)
    simp only [Nat.add_zero] at h0
    simp only [part, h0]
    exact part_none l (i + 1) _ (fun m hm => by rw [Nat.add_assoc, Nat.add_comm 1 m]; exact h (m + 1) (by simpa using hm))
theorem part_congr {sel sel' : Nat → Bool} : ∀ (l : List Rec) (i : Nat) (F : FS), (∀ m, m < l.length → sel (i + m) = sel' (i + m)) → part sel i l F = part sel' i l F
  | [], _, _, _ => rfl
  | r :: l, i, F, h => by
    have h0 := h 0 (by simp)
    simp only [Nat.add_zero] at h0
    simp only [part, h0]
    exact part_congr l (i + 1) _ (fun m hm => by rw [Nat.add_assoc, Nat.add_comm 1 m]; exact h (m + 1) (by simpa using hm))

theorem agree_pre {r : Rec} {sel : Nat → Bool} : ∀ (l : List Rec) (i : Nat) (F F' : FS), Agree ops r F F' → (∀ (m : Nat) x, l[m]? = some x → sel (i + m) = false → Indep ops x r) → Agree ops r (full l F) (part sel i l F')
  | [], _, _, _, h, _ => h
  | x :: l, i, F, F', h, hi => by
    simp only [full, List.foldl_cons, part]
    have tail : ∀ (m : Nat) y, l[m]? = some y → sel (i + 1 + m) = false → Indep ops y r := fun m y hm hs => hi (m + 1) y (by simpa using hm) (by rw [Nat.add_assoc, Nat.add_comm 1 m] at hs; exact hs)
    by_cases hs : sel i = true
    · simp only [hs, if_true]
      exact agree_pre l (i + 1) _ _ h.congr tail
    · simp only [hs]
      exact agree_pre l (i + 1) _ _ (((Agree.step (hi 0 x rfl (by simpa using hs)) F).symm).trans h) tail
theorem agree_post {r : Rec} {sel : Nat → Bool} : ∀ (l : List Rec) (i : Nat) (F F' : FS), Agree ops r F F' → (∀ (m : Nat) x, l[m]? = some x → sel (i + m) = true → Indep ops x r) → Agree ops r F (part sel i l F')
  | [], _, _, _, h, _ => h
  | x :: l, i, F, F', h, hi => by
    simp only [part]
    have tail : ∀ (m : Nat) y, l[m]? = some y → sel (i + 1 + m) = true → Indep ops y r := fun m y hm hs => hi (m + 1) y (by simpa using hm) (by rw [Nat.add_assoc, Nat.add_comm 1 m] at hs; exact hs)
    by_cases hs : sel i = true
    · simp only [hs, if_true]
      exact agree_post l (i + 1) _ _ (h.trans (Agree.step (hi 0 x rfl (by simpa using hs)) F')) tail
    · simp only [hs]
      exact agree_post l (i + 1) _ _ h tail
theorem part_rec {r : Rec} {sel : Nat → Bool} : ∀ (l : List Rec) (i : Nat) (F : FS), (∀ (m : Nat) x, l[m]? = some x → sel (i + m) = true → Indep ops x r) → part sel i l (F.rec' r) = (part sel i l F).rec' r
  | [], _, _, _ => rfl
  | x :: l, i, F, hi => by
    simp only [part]
    have tail : ∀ (m : Nat) y, l[m]? = some y → sel (i + 1 + m) = true → Indep ops y r := fun m y hm hs => hi (m + 1) y (by simpa using hm) (by rw [Nat.add_assoc, Nat.add_comm 1 m] at hs; exact hs)
    by_cases hs : sel i = true
    · simp only [hs, if_true]
      rw [← rec_comm (hi 0 x rfl (by simpa using hs))]
      exact part_rec l (i + 1) _ tail
    · simp only [hs]
      exact part_rec l (i + 1) _ tail

/-- What a record says of its operation, at a state. -/
structure RecOk (P : Program) (ρ : Env) (n : Nat) (base : Nat) (fb : Nat → Option (List C)) (ops : Array Oper) (r : Rec) (F : FS) : Prop where
  run : r.want = true → ∃ vw, vw.nid = r.nid ∧ OpOk P ρ base vw r.o r.eff ∧ Sees n fb vw r.o r.eff F
  skip : r.want = false → r.eff = { val := .one .undef }
  guard : match r.o.guard with
    | none => r.want = true
    | some (g, b) => ∃ t, (ops[g]?).bind (·.dst) = some t ∧ t < n ∧ ((∃ e : E, F.tmp t = .one (.bool e) ∧ r.want = (e.B ρ == b)) ∨ (F.tmp t = .one .undef ∧ r.want = false))
  dst : ∀ d, r.o.dst = some d → d < n

theorem RecOk.agree {r : Rec} {F F' : FS} (h : RecOk P ρ n W0.heap.size fb ops r F) (ha : Agree ops r F F') : RecOk P ρ n W0.heap.size fb ops r F' := by
  refine ⟨fun hw => ?_, h.skip, ?_, h.dst⟩
  · obtain ⟨vw, hn, h1, h2⟩ := h.run hw
    have hrow : ∀ b ∈ r.rid, F.row b = F'.row b := fun b hb => ha.row b (List.mem_append_right _ hb)
    refine ⟨vw, hn, h1, ⟨fun x hx v hv => ?_, fun p hp c hc => ?_, fun p hp => ?_, fun hx => by rw [hn]; exact (ha.nw hx).1 (by rw [← hn]; exact h2.nw hx), fun id hid q hq => ?_, ?_, h2.fb, h2.one⟩⟩
    · have h3 := h2.ev x hx v hv
      cases x with
      | tmp t =>
        simp only [evF] at h3 ⊢
        rw [← ha.t t (List.mem_append_left _ (opTs_mem hx))]
        exact h3
      | _ => exact h3
    · rw [← ha.rd p hp]; exact h2.rd p hp c hc
    · obtain ⟨c, hc⟩ := h2.wr p hp
      have := ha.wr p hp
      rw [hc] at this
      exact Option.isSome_iff_exists.1 this.symm
    · have := h2.rr id hid q hq
      unfold rwF at this ⊢
      rw [← ha.row id (List.mem_append_left _ hid)]
      exact this
    · have h3 := h2.re
      rw [hn] at h3 ⊢
      unfold Rec.rid at hrow
      revert h3 hrow
      cases r.eff.re with
      | none => exact fun _ _ => trivial
      | set id q => intro hrow h3; exact ⟨by rw [← hrow id (by simp [RE.rs])]; exact h3.1, h3.2⟩
      | mk rs =>
        intro hrow h3 i hi
        have mem : ∀ (rs : List RowOb) (nid i : Nat), i < rs.length → nid + i ∈ (mkRs nid rs).map (·.1) := by
          intro rs
          induction rs with
          | nil => intro nid i hi; simp at hi
          | cons x rs ih =>
            intro nid i hi
            cases i with
            | zero => simp [mkRs]
            | succ i =>
              simp only [mkRs, List.map_cons, List.mem_cons]
              right
              rw [show nid + (i + 1) = nid + 1 + i by omega]
              exact ih (nid + 1) i (by simpa using hi)
        rw [← hrow _ (mem rs r.nid i hi)]
        exact h3 i hi
      | app old q => intro hrow h3; exact ⟨by rw [← hrow old (by simp [RE.rs])]; exact h3.1, h3.2.1, by rw [← hrow r.nid (by simp [RE.rs])]; exact h3.2.2.1, h3.2.2.2⟩
      | view old q0 q => intro hrow h3; exact ⟨by rw [← hrow old (by simp [RE.rs])]; exact h3.1, h3.2.1, h3.2.2.1, by rw [← hrow r.nid (by simp [RE.rs])]; exact h3.2.2.2.1, h3.2.2.2.2⟩
  · have hg := h.guard
    cases hgd : r.o.guard with
    | none => rw [hgd] at hg; exact hg
    | some p =>
      obtain ⟨g, b⟩ := p
      rw [hgd] at hg
      obtain ⟨t, h1, h2, h3⟩ := hg
      refine ⟨t, h1, h2, ?_⟩
      have : F.tmp t = F'.tmp t := ha.t t (List.mem_append_right _ (by simp [gTs, hgd, h1]))
      rw [← this]
      exact h3

theorem yielded_of {j : J} {a : Act} {w : World} {F : FS} (h : Rel ρ n X W0 fb F j a w) {g t : Nat} (ht : (ops[g]?).bind (·.dst) = some t) (hn : t < n) :
    (∀ e, F.tmp t = .one (.bool e) → yielded ops a.tmps g = some (e.B ρ)) ∧ (F.tmp t = .one .undef → yielded ops a.tmps g = none) := by
  obtain ⟨v, h1, h2⟩ := h.tmp t hn
  constructor
  · intro e he
    rw [he] at h2
    rcases h2 with h2 | h2
    · cases h2
    have := one_bool h2
    subst this
    simp [yielded, ht, h1]
  · intro he
    rw [he] at h2
    rcases h2 with h2 | h2
    · cases h2
    have : v = Go.undef := (Option.some.inj h2).symm
    subst this
    simp [yielded, ht, h1, Go.undef]

theorem rec_step {j : J} {a : Act} {w : World} {F : FS} (h : Rel ρ n X W0 fb F j a w) {r : Rec} (hr : RecOk P ρ n W0.heap.size fb ops r F) {i : Nat} (hi : ops[i]? = some r.o)
    {K : Act → World → Prop} {Q : Exit → Act → World → Prop} (hK : ∀ j' a' w', Rel ρ n X W0 fb (F.rec' r) j' a' w' → K a' w') : wpOp P ops Q i K a w := by
  have hw : Region.wanted r.o (yielded ops a.tmps) = r.want := by
    have hg := hr.guard
    unfold Region.wanted
    cases hgd : r.o.guard with
    | none => rw [hgd] at hg; exact hg.symm
    | some p =>
      obtain ⟨g, b⟩ := p
      rw [hgd] at hg
      obtain ⟨t, h1, h2, h3⟩ := hg
      obtain ⟨h4, h5⟩ := yielded_of h h1 h2
      rcases h3 with ⟨e, h6, h7⟩ | ⟨h6, h7⟩
      · simp only [h4 e h6, h7]
        cases e.B ρ <;> cases b <;> rfl
      · simp only [h5 h6, h7]
        rfl
  unfold wpOp
  simp only [hi, hw]
  cases hwant : r.want with
  | true =>
    obtain ⟨vw, hn, h1, h2⟩ := hr.run hwant
    exact .inl (op_step h h1 h2 hr.dst (by rw [hn]; exact hK))
  | false =>
    have he := hr.skip hwant
    refine hK j _ w ?_
    unfold FS.rec' FS.app
    rw [he]
    exact h.put rfl hr.dst

theorem region_seq : ∀ (post pre : List Rec) (F0 : FS), ops.toList = (pre ++ post).map (·.o) → (∀ (m : Nat) r, post[m]? = some r → RecOk P ρ n W0.heap.size fb ops r (full (pre ++ post.take m) F0)) →
    ∀ {Q : Exit → Act → World → Prop} {j : J} {a : Act} {w : World}, Rel ρ n X W0 fb (full pre F0) j a w → (∀ j' a' w', Rel ρ n X W0 fb (full (pre ++ post) F0) j' a' w' → Q .normal a' w') → wpOps P ops Q (List.range' pre.length post.length) a w
  | [], pre, F0, hl, hr, Q, j, a, w, h, hQ => by
    simp only [List.length_nil, List.range'_zero, wpOps]
    exact hQ j a w (by simpa using h)
  | r :: post, pre, F0, hl, hr, Q, j, a, w, h, hQ => by
    simp only [List.length_cons, List.range'_succ]
    rw [wpOps_cons]
    have h0 := hr 0 r rfl
    simp only [List.take_zero, List.append_nil] at h0
    refine rec_step h h0 ?_ (fun j' a' w' h' => ?_)
    · rw [← Array.getElem?_toList, hl]
      simp
    · have := region_seq post (pre ++ [r]) F0 (by rw [hl]; simp) (fun m x hm => by
        have := hr (m + 1) x (by simpa using hm)
        simpa using this) (Q := Q) (j := j') (a := a') (w := w') (by simpa [full] using h') (fun j'' a'' w'' h'' => hQ j'' a'' w'' (by simpa using h''))
      simpa using this

/-- Closed under what must have come before. -/
def Closed (ops : Array Oper) (sel : Nat → Bool) : Prop := ∀ (i : Nat) o, ops[i]? = some o → sel i = true → ∀ e ∈ o.after, Region.binds .any e = true → sel e.on = true

theorem region_any {L : List Rec} {F0 : FS} (hl : ops.toList = L.map (·.o)) (hr : ∀ (m : Nat) r, L[m]? = some r → RecOk P ρ n W0.heap.size fb ops r (full (L.take m) F0))
    (hback : ∀ (i : Nat) o, ops[i]? = some o → ∀ e ∈ o.after, Region.binds .any e = true → e.on < i)
    (hpair : ∀ (k i : Nat) x r, k < i → L[k]? = some x → L[i]? = some r → Indep ops x r ∨ ∀ sel, Closed ops sel → (∀ o, ops[i]? = some o → ∀ e ∈ o.after, Region.binds .any e = true → sel e.on = true) → sel k = true) {Q : Exit → Act → World → Prop}
    (hQ : ∀ j' a' w', Rel ρ n X W0 fb (full L F0) j' a' w' → Q .normal a' w') :
    ∀ (fuel : Nat) (listed : Array Bool) (j : J) (a : Act) (w : World), listed.size = L.length → Closed ops (fun i => listed.getD i false) → (List.range L.length).countP (fun i => !listed.getD i false) ≤ fuel →
      Rel ρ n X W0 fb (part (fun i => listed.getD i false) 0 L F0) j a w → wpAny P .any ops Q fuel listed a w := by
  have hsz : ops.size = L.length := by rw [← Array.length_toList, hl, List.length_map]
  have hop : ∀ (i : Nat) r, L[i]? = some r → ops[i]? = some r.o := fun i r hi => by rw [← Array.getElem?_toList, hl, List.getElem?_map, hi]; rfl
  have gd : ∀ (listed : Array Bool) (i : Nat), listed.size = L.length → i < L.length → listed.getD i true = listed.getD i false := fun listed i hs hi => by
    rw [Array.getD_eq_getD_getElem?, Array.getD_eq_getD_getElem?, Array.getElem?_eq_getElem (by omega)]; rfl
  have done : ∀ (listed : Array Bool) (j : J) (a : Act) (w : World), listed.size = L.length → Closed ops (fun i => listed.getD i false) → Rel ρ n X W0 fb (part (fun i => listed.getD i false) 0 L F0) j a w → Region.ready .any ops listed = [] → Q .normal a w := by
    intro listed j a w hs hc h hnil
    refine hQ j a w ?_
    have hall : ∀ i, i < L.length → listed.getD i false = true := by
      intro i
      induction i using Nat.strongRecOn with
      | _ i ih =>
        intro hi
        cases hb : listed.getD i false with
        | true => rfl
        | false =>
          exfalso
          have : i ∈ Region.ready .any ops listed := by
            unfold Region.ready
            simp only [List.mem_filter, List.mem_range, Bool.and_eq_true, Bool.not_eq_true']
            obtain ⟨r, hr'⟩ : ∃ r, L[i]? = some r := ⟨L[i], List.getElem?_eq_getElem hi⟩
            have ho := hop i r hr'
            refine ⟨by omega, ?_, ?_⟩
            · rw [gd listed i hs hi]; exact hb
            · rw [ho]
              simp only [Option.map_some, Option.getD_some, Array.all_eq_true_iff_forall_mem, Bool.or_eq_true, Bool.not_eq_true']
              intro e he
              cases hbd : Region.binds .any e with
              | false => exact .inl rfl
              | true =>
                have hlt := hback i _ ho e he hbd
                exact .inr (ih e.on hlt (by omega))
          rw [hnil] at this
          cases this
    rw [part_full L 0 F0 (fun m hm => by simpa using hall m hm)] at h
    exact h
  intro fuel
  induction fuel with
  | zero =>
    intro listed j a w hs hc hf h
    have hall : ∀ i, i < L.length → listed.getD i false = true := fun i hi => by
      have := List.countP_eq_zero.1 (Nat.le_zero.1 hf) i (List.mem_range.2 hi)
      simpa using this
    have hnil : Region.ready .any ops listed = [] := by
      unfold Region.ready
      rw [List.filter_eq_nil_iff]
      intro i hi
      have hi' : i < L.length := by rw [List.mem_range] at hi; omega
      rw [gd listed i hs hi', hall i hi']
      simp
    exact ⟨hnil, done listed j a w hs hc h hnil⟩
  | succ fuel ih =>
    intro listed j a w hs hc hf h
    refine ⟨fun hnil => done listed j a w hs hc h hnil, fun i hi => ?_⟩
    obtain ⟨hun, o, ho, hall⟩ := mem_ready.1 hi
    have hi' : i < L.length := by
      rw [← hsz]
      rcases Nat.lt_or_ge i ops.size with h1 | h1
      · exact h1
      · rw [Array.getElem?_eq_none h1] at ho; cases ho
    obtain ⟨r, hr'⟩ : ∃ r, L[i]? = some r := ⟨L[i], List.getElem?_eq_getElem hi'⟩
    have ho' := hop i r hr'
    rw [ho] at ho'
    cases ho'
    have hun' : listed.getD i false = false := by rw [← gd listed i hs hi']; exact hun
    have hsplit : L = L.take i ++ r :: L.drop (i + 1) := by
      rw [List.getElem?_eq_getElem hi'] at hr'
      cases hr'
      simp
    have hlen : (L.take i).length = i := by simp; omega
    -- the ones that have not come although earlier, and those that have come although later
    have hpre : ∀ (m : Nat) x, (L.take i)[m]? = some x → listed.getD (0 + m) false = false → Indep ops x r := by
      intro m x hm hsel
      have hmi : m < i := by
        rcases Nat.lt_or_ge m i with h1 | h1
        · exact h1
        · rw [List.getElem?_eq_none (by omega)] at hm; cases hm
      rw [List.getElem?_take_of_lt hmi] at hm
      rcases hpair m i x r hmi hm hr' with h1 | h1
      · exact h1
      · exfalso
        have := h1 (fun i => listed.getD i false) hc (fun o' ho2 e he hb => by
          rw [ho] at ho2; cases ho2
          exact hall e he hb)
        simp only [Nat.zero_add] at hsel
        rw [hsel] at this
        cases this
    have hpost : ∀ (m : Nat) x, (L.drop (i + 1))[m]? = some x → listed.getD (i + 1 + m) false = true → Indep ops x r := by
      intro m x hm hsel
      rw [List.getElem?_drop] at hm
      rcases hpair i (i + 1 + m) r x (by omega) hr' hm with h1 | h1
      · exact h1.symm
      · exfalso
        have := h1 (fun i => listed.getD i false) hc (fun o' ho2 e he hb => hc (i + 1 + m) o' ho2 hsel e he hb)
        rw [hun'] at this
        cases this
    have hF : part (fun i => listed.getD i false) 0 L F0 = part (fun i => listed.getD i false) (i + 1) (L.drop (i + 1)) (part (fun i => listed.getD i false) 0 (L.take i) F0) := by
      conv => lhs; rw [hsplit]
      rw [part_append, hlen, Nat.zero_add]
      simp only [part, hun']
      rfl
    have hag : Agree ops r (full (L.take i) F0) (part (fun i => listed.getD i false) 0 L F0) := by
      rw [hF]
      exact agree_post _ _ _ _ (agree_pre _ 0 _ _ (Agree.refl ops r F0) hpre) hpost
    have hok := (hr i r hr').agree hag
    refine rec_step h hok ho (fun j' a' w' h' => ?_)
    have hsz' : (listed.setIfInBounds i true).size = L.length := by simp [hs]
    have hget : ∀ k, (listed.setIfInBounds i true).getD k false = if k = i then true else listed.getD k false := by
      intro k
      rw [Array.getD_eq_getD_getElem?, Array.getElem?_setIfInBounds]
      by_cases hk : k = i
      · subst hk
        simp [hs, hi']
      · have hik : ¬ i = k := fun e => hk e.symm
        simp [hk, hik, Array.getD_eq_getD_getElem?]
    refine ih _ j' a' w' hsz' ?_ ?_ ?_
    · intro k o' hk hsel e he hb
      simp only [hget] at hsel ⊢
      by_cases hki : k = i
      · subst hki
        rw [ho] at hk; cases hk
        split
        · rfl
        · exact hall e he hb
      · rw [if_neg hki] at hsel
        split
        · rfl
        · exact hc k o' hk hsel e he hb
    · have : (List.range L.length).countP (fun k => !(listed.setIfInBounds i true).getD k false) < (List.range L.length).countP (fun k => !listed.getD k false) := by
        have e1 : (List.range L.length) = List.range i ++ i :: (List.range' (i + 1) (L.length - (i + 1))) := by
          have h1 : i :: List.range' (i + 1) (L.length - (i + 1)) = List.range' i (L.length - i) := by
            rw [show L.length - i = (L.length - (i + 1)) + 1 by omega, List.range'_succ]
          have h2 := List.range'_append_1 (s := 0) (m := i) (n := L.length - i)
          rw [Nat.zero_add, show i + (L.length - i) = L.length by omega] at h2
          rw [h1, List.range_eq_range', List.range_eq_range', h2]
        rw [e1, List.countP_append, List.countP_append, List.countP_cons, List.countP_cons]
        have c1 : ∀ l : List Nat, i ∉ l → l.countP (fun k => !(listed.setIfInBounds i true).getD k false) = l.countP (fun k => !listed.getD k false) := by
          intro l hl'
          apply List.countP_congr
          intro k hk
          have : k ≠ i := fun e => hl' (e ▸ hk)
          simp only [hget, this, if_false]
        rw [c1 _ (by simp), c1 _ (by rw [List.mem_range'_1]; omega)]
        simp [hget, hun']
      omega
    · have : part (fun k => (listed.setIfInBounds i true).getD k false) 0 L F0 = (part (fun i => listed.getD i false) 0 L F0).rec' r := by
        rw [hF]
        conv => lhs; rw [hsplit]
        rw [part_append, hlen, Nat.zero_add]
        simp only [part, hget, if_true]
        rw [part_congr (sel' := fun i => listed.getD i false) (L.take i) 0 F0 (fun m hm => by
          have : m ≠ i := by rw [hlen] at hm; omega
          simp [this])]
        rw [part_congr (sel' := fun i => listed.getD i false) (L.drop (i + 1)) (i + 1) _ (fun m hm => by
          have : ¬ i + 1 + m = i := by omega
          simp [this])]
        exact part_rec _ _ _ hpost
      rw [this]
      exact h'
end
end Go.Proofs.Ytmkaphfdgdkaoaa

/- A part of a region's operations, in whatever order they come; one that the world has no part in may come later than its place. Nothing of the program is in here. -/
set_option linter.unusedVariables false
set_option linter.unusedSimpArgs false
namespace Go.Proofs.Ytmkaphfdgdkaoaa
open Go Go.RowKit

section
variable {P : Program}
/-- An operation that the world has no part in. -/
def Still (P : Program) (o : Oper) (a : Act) : Prop := ∃ v, ∀ w, (execOp a.eval o).run P w = .ok (.value v) w
theorem still_move {o : Oper} {x : Operand} (h : o.op = .move x ∨ o.op = .assign x) (a : Act) : Still P o a := ⟨a.eval x, fun w => by rcases h with h | h <;> simp [execOp, h]⟩
theorem sureAddr_no {v : Value} (hv : ∀ ad, v ≠ .pointer (some ad)) (w : World) : ∃ x w', (Instr.sureAddr v).run P w = .halt x w' := by
  cases v with
  | pointer p =>
    cases p with
    | some ad => exact absurd rfl (hv ad)
    | none => exact ⟨_, _, rfl⟩
  | _ => exact ⟨_, _, rfl⟩
theorem fieldAt_no {s f : Nat} {v : Value} (hv : ∀ ad, v ≠ .pointer (some ad)) (w : World) : ∃ x w', (Instr.fieldAt s v f).run P w = .halt x w' := by
  unfold Instr.fieldAt
  simp only [Sem.run_bind]
  cases h : (underlying s).run P w with
  | halt x w1 => exact ⟨x, w1, rfl⟩
  | ok d w1 =>
    simp only [Result.andThen_ok]
    split
    · split
      · simp only [Sem.run_bind]
        obtain ⟨x, w2, h2⟩ := sureAddr_no hv w1
        rw [h2]
        exact ⟨x, w2, rfl⟩
      · exact ⟨_, _, rfl⟩
    · exact ⟨_, _, rfl⟩
theorem still_field {o : Oper} {s : Nat} {x : Operand} {f : Nat} (h : o.op = .fieldAddr s x f) {i : TI} (ht : TIok P s i) {off ft : Nat} (hf : i.fields[f]? = some (off, ft)) {a : Act} {w : World} {K : Act → World → Prop} (hw : o.wp P a w K fun _ _ _ => False) : Still P o a := by
  by_cases hx : ∃ ad, a.eval x = .pointer (some ad)
  · obtain ⟨ad, hx⟩ := hx
    exact ⟨.pointer (some (ad.add off)), fun w => by simp [execOp, h, hx, Sem.run_bind, ht.fieldAt f off ft hf w ad]⟩
  · exfalso
    obtain ⟨y, w', h2⟩ := fieldAt_no (P := P) (s := s) (f := f) (v := a.eval x) (fun ad e => hx ⟨ad, e⟩) w
    unfold Oper.wp at hw
    simp only [execOp, h, Sem.run_bind, h2] at hw
    cases y <;> exact hw
theorem wp_monoQ {o : Oper} {a : Act} {w : World} {K : Act → World → Prop} {Q Q' : Exit → Act → World → Prop} (h : ∀ e a w, Q e a w → Q' e a w) (hh : o.wp P a w K Q) : o.wp P a w K Q' := by
  unfold Oper.wp at *
  generalize (execOp a.eval o).run P w = r at *
  cases r with
  | ok n w' =>
    cases n <;> simp only [Oper.upon] at hh ⊢ <;>
      first
        | exact hh
        | exact Calls.mono hh (fun e w'' he => by cases e <;> first | exact he | exact h _ _ _ he | exact (let ⟨a, w, q⟩ := he; ⟨a, w, h _ _ _ q⟩))
  | halt x w' => cases x <;> simp only [Oper.upon] at hh ⊢ <;> first | exact h _ _ _ hh | exact hh
theorem wpOp_monoQ {ops : Array Oper} {i : Nat} {a : Act} {w : World} {K : Act → World → Prop} {Q Q' : Exit → Act → World → Prop} (h : ∀ e a w, Q e a w → Q' e a w) (hh : wpOp P ops Q i K a w) : wpOp P ops Q' i K a w := by
  unfold wpOp at *
  split
  · rename_i ho; simpa [ho] using hh
  · rename_i o ho
    simp only [ho] at hh
    split
    · rename_i hw; simp only [hw, if_true] at hh; exact hh.imp (wp_monoQ h) (fun ⟨p, a, w, q⟩ => ⟨p, a, w, h _ _ _ q⟩)
    · rename_i hw; simp only [hw] at hh; exact hh
theorem wpAny_monoQ {ops : Array Oper} {Q Q' : Exit → Act → World → Prop} (h : ∀ e a w, Q e a w → Q' e a w) : ∀ (fuel : Nat) (listed : Array Bool) (a : Act) (w : World), wpAny P .any ops Q fuel listed a w → wpAny P .any ops Q' fuel listed a w
  | 0, listed, a, w, hh => ⟨hh.1, h _ _ _ hh.2⟩
  | fuel + 1, listed, a, w, hh => ⟨fun hr => h _ _ _ (hh.1 hr), fun i hi => wpOp_monoQ h (wpOp_mono (fun a w q => wpAny_monoQ h fuel _ a w q) (hh.2 i hi))⟩
end

def partI (sel : Nat → Bool) : List (Nat × Rec) → FS → FS
  | [], F => F
  | p :: l, F => partI sel l (if sel p.1 then F.rec' p.2 else F)
def fullI (l : List (Nat × Rec)) (F : FS) : FS := l.foldl (fun F p => F.rec' p.2) F
def cnt (ops : Array Oper) (l : Array Bool) : Nat := (List.range ops.size).countP fun i => !l.getD i false
/-- What must come ahead of an operation. -/
def Forced (ops : Array Oper) (k i : Nat) : Prop := ∀ sel, Closed ops sel → (∀ o, ops[i]? = some o → ∀ e ∈ o.after, Region.binds .any e = true → sel e.on = true) → sel k = true

section
variable {P : Program} {ρ : Env} {n : Nat} {X : List Value} {W0 : World} {fb : Nat → Option (List C)} {ops : Array Oper}

theorem partI_append (sel : Nat → Bool) : ∀ (l m : List (Nat × Rec)) (F : FS), partI sel (l ++ m) F = partI sel m (partI sel l F)
  | [], m, F => rfl
  | p :: l, m, F => by simp only [List.cons_append, partI]; exact partI_append sel l m _
theorem partI_full {sel : Nat → Bool} : ∀ (l : List (Nat × Rec)) (F : FS), (∀ p ∈ l, sel p.1 = true) → partI sel l F = fullI l F
  | [], _, _ => rfl
  | p :: l, F, h => by
    simp only [partI, h p List.mem_cons_self, if_true, fullI, List.foldl_cons]
    exact partI_full l _ (fun q hq => h q (List.mem_cons_of_mem _ hq))
theorem partI_none {sel : Nat → Bool} : ∀ (l : List (Nat × Rec)) (F : FS), (∀ p ∈ l, sel p.1 = false) → partI sel l F = F
  | [], _, _ => rfl
  | p :: l, F, h => by
    simp only [partI, h p List.mem_cons_self]
    exact partI_none l _ (fun q hq => h q (List.mem_cons_of_mem _ hq))
theorem partI_congr {sel sel' : Nat → Bool} : ∀ (l : List (Nat × Rec)) (F : FS), (∀ p ∈ l, sel p.1 = sel' p.1) → partI sel l F = partI sel' l F
  | [], _, _ => rfl
  | p :: l, F, h => by
    simp only [partI, h p List.mem_cons_self]
    exact partI_congr l _ (fun q hq => h q (List.mem_cons_of_mem _ hq))
theorem agreeI_pre {r : Rec} {sel : Nat → Bool} : ∀ (l : List (Nat × Rec)) (F F' : FS), Agree ops r F F' → (∀ p ∈ l, sel p.1 = false → Indep ops p.2 r) → Agree ops r (fullI l F) (partI sel l F')
  | [], _, _, h, _ => h
  | x :: l, F, F', h, hi => by
    simp only [fullI, List.foldl_cons, partI]
    have tail : ∀ p ∈ l, sel p.1 = false → Indep ops p.2 r := fun p hp => hi p (List.mem_cons_of_mem _ hp)
    by_cases hs : sel x.1 = true
    · simp only [hs, if_true]
      exact agreeI_pre l _ _ h.congr tail
    · simp only [hs]
      exact agreeI_pre l _ _ (((Agree.step (hi x List.mem_cons_self (by simpa using hs)) F).symm).trans h) tail
theorem agreeI_post {r : Rec} {sel : Nat → Bool} : ∀ (l : List (Nat × Rec)) (F F' : FS), Agree ops r F F' → (∀ p ∈ l, sel p.1 = true → Indep ops p.2 r) → Agree ops r F (partI sel l F')
  | [], _, _, h, _ => h
  | x :: l, F, F', h, hi => by
    simp only [partI]
    have tail : ∀ p ∈ l, sel p.1 = true → Indep ops p.2 r := fun p hp => hi p (List.mem_cons_of_mem _ hp)
    by_cases hs : sel x.1 = true
    · simp only [hs, if_true]
      exact agreeI_post l _ _ (h.trans (Agree.step (hi x List.mem_cons_self hs) F')) tail
    · simp only [hs]
      exact agreeI_post l _ _ h tail
theorem partI_rec {r : Rec} {sel : Nat → Bool} : ∀ (l : List (Nat × Rec)) (F : FS), (∀ p ∈ l, sel p.1 = true → Indep ops p.2 r) → partI sel l (F.rec' r) = (partI sel l F).rec' r
  | [], _, _ => rfl
  | x :: l, F, hi => by
    simp only [partI]
    have tail : ∀ p ∈ l, sel p.1 = true → Indep ops p.2 r := fun p hp => hi p (List.mem_cons_of_mem _ hp)
    by_cases hs : sel x.1 = true
    · simp only [hs, if_true]
      rw [← rec_comm (hi x List.mem_cons_self hs)]
      exact partI_rec l _ tail
    · simp only [hs]
      exact partI_rec l _ tail

/-- One that may come later: the world has no part in it, and no other one minds its number. -/
structure Float (P : Program) (ops : Array Oper) (i : Nat) (o : Oper) : Prop where
  still : ∀ a w K, o.wp P a w K (fun _ _ _ => False) → Still P o a
  guard : o.guard = none
  sel : Region.noSelect ops = true
  free : Region.free .any ops (Array.replicate ops.size false) i = true

theorem cnt_set {listed : Array Bool} {i : Nat} (hs : listed.size = ops.size) (hi : i < ops.size) (hun : listed.getD i false = false) : cnt ops (listed.setIfInBounds i true) < cnt ops listed := by
  have hget : ∀ k, (listed.setIfInBounds i true).getD k false = if k = i then true else listed.getD k false := by
    intro k
    rw [Array.getD_eq_getD_getElem?, Array.getElem?_setIfInBounds]
    by_cases hk : k = i
    · subst hk; simp [hs, hi]
    · have hik : ¬ i = k := fun e => hk e.symm
      simp [hk, hik, Array.getD_eq_getD_getElem?]
  unfold cnt
  have e1 : (List.range ops.size) = List.range i ++ i :: (List.range' (i + 1) (ops.size - (i + 1))) := by
    have h1 : i :: List.range' (i + 1) (ops.size - (i + 1)) = List.range' i (ops.size - i) := by
      rw [show ops.size - i = (ops.size - (i + 1)) + 1 by omega, List.range'_succ]
    have h2 := List.range'_append_1 (s := 0) (m := i) (n := ops.size - i)
    rw [Nat.zero_add, show i + (ops.size - i) = ops.size by omega] at h2
    rw [h1, List.range_eq_range', List.range_eq_range', h2]
  rw [e1, List.countP_append, List.countP_append, List.countP_cons, List.countP_cons]
  have c1 : ∀ l : List Nat, i ∉ l → l.countP (fun k => !(listed.setIfInBounds i true).getD k false) = l.countP (fun k => !listed.getD k false) := by
    intro l hl'
    apply List.countP_congr
    intro k hk
    have : k ≠ i := fun e => hl' (e ▸ hk)
    simp only [hget, this, if_false]
  rw [c1 _ (by simp), c1 _ (by rw [List.mem_range'_1]; omega)]
  simp [hget, hun]

theorem closed_set {listed : Array Bool} {i : Nat} {o : Oper} (hs : listed.size = ops.size) (ho : ops[i]? = some o) (hc : Closed ops (fun i => listed.getD i false)) (hall : ∀ e ∈ o.after, Region.binds .any e = true → listed.getD e.on false = true) :
    Closed ops (fun k => (listed.setIfInBounds i true).getD k false) := by
  have hi : i < ops.size := (Array.getElem?_eq_some_iff.1 ho).1
  intro k o' hk hsel e he hb
  by_cases hki : k = i
  · subst hki
    rw [ho] at hk; cases hk
    exact getD_set_true (hall e he hb)
  · dsimp only at hsel
    rw [getD_set_ne false (Ne.symm hki)] at hsel
    exact getD_set_true (hc k o' hk hsel e he hb)

/-- A part of a region. -/
theorem seg_any {L : List (Nat × Rec)} {F0 : FS} {base : Nat → Bool} {Q : Exit → Act → World → Prop} (hQ : ∀ c a w, ¬ Q (.panic c) a w)
    (hop : ∀ p ∈ L, ops[p.1]? = some p.2.o) (hnd : (L.map (·.1)).Nodup)
    (hr : ∀ (m : Nat) p, L[m]? = some p → RecOk P ρ n W0.heap.size fb ops p.2 (fullI (L.take m) F0))
    (hpair : ∀ (m q : Nat) x r, m < q → L[m]? = some x → L[q]? = some r → Indep ops x.2 r.2 ∨ Forced ops x.1 r.1)
    (hback : ∀ p ∈ L, ∀ e ∈ p.2.o.after, Region.binds .any e = true → e.on < p.1 ∧ (base e.on = true ∨ ∃ q ∈ L, q.1 = e.on))
    (hout : ∀ i, i < ops.size → base i = false → (∀ p ∈ L, p.1 ≠ i) → ∀ p ∈ L, Float P ops p.1 p.2.o ∨ Forced ops p.1 i)
    (hend : ∀ (listed : Array Bool) (j : J) (a : Act) (w : World), listed.size = ops.size → Closed ops (fun i => listed.getD i false) → (∀ i, listed.getD i false = true ↔ (base i = true ∨ ∃ p ∈ L, p.1 = i)) →
      Rel ρ n X W0 fb (fullI L F0) j a w → ∀ fuel, cnt ops listed ≤ fuel → wpAny P .any ops Q fuel listed a w) :
    ∀ (N : Nat) (listed : Array Bool) (j : J) (a : Act) (w : World), L.countP (fun p => !listed.getD p.1 false) ≤ N → listed.size = ops.size → Closed ops (fun i => listed.getD i false) →
      (∀ i, listed.getD i false = true → base i = true ∨ ∃ p ∈ L, p.1 = i) → (∀ i, base i = true → listed.getD i false = true) →
      Rel ρ n X W0 fb (partI (fun i => listed.getD i false) L F0) j a w → ∀ fuel, cnt ops listed ≤ fuel → wpAny P .any ops Q fuel listed a w := by
  have all_or : ∀ (listed : Array Bool), (∀ p ∈ L, listed.getD p.1 false = true) ∨ ∃ p ∈ L, listed.getD p.1 false = false ∧ ∀ q ∈ L, listed.getD q.1 false = false → p.1 ≤ q.1 := by
    intro listed
    by_cases h : ∃ p ∈ L, listed.getD p.1 false = false
    · right
      have key : ∀ (k : Nat), (∃ p ∈ L, listed.getD p.1 false = false ∧ p.1 ≤ k) → ∃ p ∈ L, listed.getD p.1 false = false ∧ ∀ q ∈ L, listed.getD q.1 false = false → p.1 ≤ q.1 := by
        intro k
        induction k using Nat.strongRecOn with
        | _ k ih =>
          rintro ⟨p, hp, hu, hk⟩
          by_cases hm : ∃ q ∈ L, listed.getD q.1 false = false ∧ q.1 < p.1
          · obtain ⟨q, hq, hqu, hlt⟩ := hm
            exact ih q.1 (by omega) ⟨q, hq, hqu, Nat.le_refl _⟩
          · refine ⟨p, hp, hu, fun q hq hqu => ?_⟩
            rcases Nat.lt_or_ge q.1 p.1 with h1 | h1
            · exact absurd ⟨q, hq, hqu, h1⟩ hm
            · exact h1
      obtain ⟨p, hp, hu⟩ := h
      exact key p.1 ⟨p, hp, hu, Nat.le_refl _⟩
    · left
      intro p hp
      cases hb : listed.getD p.1 false with
      | true => rfl
      | false => exact absurd ⟨p, hp, hb⟩ h
  have idx : ∀ {p q : Nat × Rec}, p ∈ L → q ∈ L → p.1 = q.1 → p = q := by
    intro p q hp hq e
    obtain ⟨m, hm⟩ := List.getElem?_of_mem hp
    obtain ⟨m', hm'⟩ := List.getElem?_of_mem hq
    have h1 : (L.map (·.1))[m]? = some p.1 := by rw [List.getElem?_map, hm]; rfl
    have h2 : (L.map (·.1))[m']? = some p.1 := by rw [List.getElem?_map, hm', e]; rfl
    have : m = m' := (List.getElem?_inj (List.getElem?_eq_some_iff.1 h1).1 hnd).1 (h1.trans h2.symm)
    subst this
    rw [hm] at hm'
    cases hm'
    rfl
  intro N
  induction N with
  | zero =>
    intro listed j a w hN hs hc hsub hbase h fuel hf
    have hall : ∀ p ∈ L, listed.getD p.1 false = true := fun p hp => by
      have := List.countP_eq_zero.1 (Nat.le_zero.1 hN) p hp
      simpa using this
    rw [partI_full L F0 hall] at h
    exact hend listed j a w hs hc (fun i => ⟨hsub i, fun h => by
      rcases h with h | ⟨p, hp, rfl⟩
      · exact hbase i h
      · exact hall p hp⟩) h fuel hf
  | succ N ih =>
    intro listed j a w hN hs hc hsub hbase h fuel hf
    rcases all_or listed with hall | ⟨p0, hp0, hu0, hmin⟩
    · rw [partI_full L F0 hall] at h
      exact hend listed j a w hs hc (fun i => ⟨hsub i, fun h => by
      rcases h with h | ⟨p, hp, rfl⟩
      · exact hbase i h
      · exact hall p hp⟩) h fuel hf
    have gd : ∀ i, i < ops.size → listed.getD i true = listed.getD i false := fun i hi => by
      rw [Array.getD_eq_getD_getElem?, Array.getD_eq_getD_getElem?, Array.getElem?_eq_getElem (by omega)]; rfl
    have lt0 : p0.1 < ops.size := (Array.getElem?_eq_some_iff.1 (hop p0 hp0)).1
    have ready0 : p0.1 ∈ Region.ready .any ops listed := by
      rw [mem_ready]
      refine ⟨by rw [gd _ lt0]; exact hu0, p0.2.o, hop p0 hp0, fun e he hb => ?_⟩
      obtain ⟨h1, h2⟩ := hback p0 hp0 e he hb
      rcases h2 with h2 | ⟨q, hq, e1⟩
      · exact hbase _ h2
      · cases hb2 : listed.getD e.on false with
        | true => rfl
        | false =>
          have := hmin q hq (by rw [e1]; exact hb2)
          omega
    obtain ⟨fuel, rfl⟩ : ∃ f, fuel = f + 1 := by
      cases fuel with
      | zero => have := cnt_set (ops := ops) hs lt0 hu0; omega
      | succ f => exact ⟨f, rfl⟩
    -- what a step of the part leads to
    have step : ∀ p ∈ L, listed.getD p.1 false = false → (∀ e ∈ p.2.o.after, Region.binds .any e = true → listed.getD e.on false = true) →
        RecOk P ρ n W0.heap.size fb ops p.2 (partI (fun i => listed.getD i false) L F0) ∧
        ∀ j' a' w', Rel ρ n X W0 fb ((partI (fun i => listed.getD i false) L F0).rec' p.2) j' a' w' → wpAny P .any ops Q fuel (listed.setIfInBounds p.1 true) a' w' := by
      intro p hp hun hall
      obtain ⟨m, hm⟩ := List.getElem?_of_mem hp
      have hml : m < L.length := (List.getElem?_eq_some_iff.1 hm).1
      have hsplit : L = L.take m ++ p :: L.drop (m + 1) := by
        rw [List.getElem?_eq_getElem hml] at hm
        cases hm
        simp
      have hpre : ∀ q ∈ L.take m, listed.getD q.1 false = false → Indep ops q.2 p.2 := by
        intro q hq hsel
        obtain ⟨k, hk⟩ := List.getElem?_of_mem hq
        have hkm : k < m := by
          have := (List.getElem?_eq_some_iff.1 hk).1
          rw [List.length_take] at this
          omega
        rw [List.getElem?_take_of_lt hkm] at hk
        rcases hpair k m q p hkm hk hm with h1 | h1
        · exact h1
        · exfalso
          have := h1 (fun i => listed.getD i false) hc (fun o' ho2 e he hb => by
            rw [hop p hp] at ho2; cases ho2
            exact hall e he hb)
          (try dsimp only at this)
          rw [hsel] at this
          cases this
      have hpost : ∀ q ∈ L.drop (m + 1), listed.getD q.1 false = true → Indep ops q.2 p.2 := by
        intro q hq hsel
        obtain ⟨k, hk⟩ := List.getElem?_of_mem hq
        rw [List.getElem?_drop] at hk
        rcases hpair m (m + 1 + k) p q (by omega) hm hk with h1 | h1
        · exact h1.symm
        · exfalso
          have := h1 (fun i => listed.getD i false) hc (fun o' ho2 e he hb => hc q.1 o' ho2 hsel e he hb)
          (try dsimp only at this)
          rw [hun] at this
          cases this
      have hF : partI (fun i => listed.getD i false) L F0 = partI (fun i => listed.getD i false) (L.drop (m + 1)) (partI (fun i => listed.getD i false) (L.take m) F0) := by
        conv => lhs; rw [hsplit]
        rw [partI_append]
        simp only [partI, hun]
        rfl
      have hag : Agree ops p.2 (fullI (L.take m) F0) (partI (fun i => listed.getD i false) L F0) := by
        rw [hF]
        exact agreeI_post _ _ _ (agreeI_pre _ _ _ (Agree.refl ops p.2 F0) hpre) hpost
      refine ⟨(hr m p hm).agree hag, fun j' a' w' h' => ?_⟩
      have hpi : p.1 < ops.size := (Array.getElem?_eq_some_iff.1 (hop p hp)).1
      have hget : ∀ k, (listed.setIfInBounds p.1 true).getD k false = if k = p.1 then true else listed.getD k false := by
        intro k
        rw [Array.getD_eq_getD_getElem?, Array.getElem?_setIfInBounds]
        by_cases hk : k = p.1
        · subst hk; simp [hs, hpi]
        · have hik : ¬ p.1 = k := fun e => hk e.symm
          simp [hk, hik, Array.getD_eq_getD_getElem?]
      have notin : ∀ q, q ∈ L.take m ∨ q ∈ L.drop (m + 1) → q.1 ≠ p.1 := by
        intro q hq e
        have hqL : q ∈ L := by
          rcases hq with hq | hq
          · exact List.mem_of_mem_take hq
          · exact List.mem_of_mem_drop hq
        have e2 := idx hqL hp e
        subst e2
        have hnd' := hnd
        rw [hsplit, List.map_append, List.map_cons] at hnd'
        rw [List.nodup_append] at hnd'
        obtain ⟨_, h2, h3⟩ := hnd'
        rcases hq with hq | hq
        · exact h3 _ (List.mem_map.2 ⟨q, hq, rfl⟩) _ List.mem_cons_self rfl
        · exact (List.nodup_cons.1 h2).1 (List.mem_map.2 ⟨q, hq, rfl⟩)
      refine ih (listed.setIfInBounds p.1 true) j' a' w' ?_ (by simp [hs]) (closed_set hs (hop p hp) hc hall) (fun i hi => ?_) (fun i hi => getD_set_true (hbase i hi)) ?_ fuel (by have := cnt_set (ops := ops) hs hpi hun; omega)
      · have : L.countP (fun q => !(listed.setIfInBounds p.1 true).getD q.1 false) < L.countP (fun q => !listed.getD q.1 false) := by
          rw [hsplit, List.countP_append, List.countP_append, List.countP_cons, List.countP_cons]
          have c1 : ∀ l : List (Nat × Rec), (∀ q ∈ l, q.1 ≠ p.1) → l.countP (fun q => !(listed.setIfInBounds p.1 true).getD q.1 false) = l.countP (fun q => !listed.getD q.1 false) := by
            intro l hl'
            apply List.countP_congr
            intro q hq
            simp only [hget, hl' q hq, if_false]
          rw [c1 _ (fun q hq => notin q (.inl hq)), c1 _ (fun q hq => notin q (.inr hq))]
          simp [hget, hun]
        omega
      · rw [hget] at hi
        split at hi
        · rename_i e; subst e; exact .inr ⟨p, hp, rfl⟩
        · exact hsub i hi
      · have : partI (fun k => (listed.setIfInBounds p.1 true).getD k false) L F0 = (partI (fun i => listed.getD i false) L F0).rec' p.2 := by
          rw [hF]
          conv => lhs; rw [hsplit]
          rw [partI_append]
          simp only [partI, hget, if_true]
          rw [partI_congr (sel' := fun i => listed.getD i false) (L.take m) F0 (fun q hq => by
            simp [notin q (.inl hq)])]
          rw [partI_congr (sel' := fun i => listed.getD i false) (L.drop (m + 1)) _ (fun q hq => by
            simp [notin q (.inr hq)])]
          exact partI_rec _ _ hpost
        rw [this]
        exact h'
    by_cases hfl : Float P ops p0.1 p0.2.o
    · -- it may be taken now
      obtain ⟨hrec, hgo⟩ := step p0 hp0 hu0 (fun e he hb => by
        obtain ⟨_, o, ho, hall⟩ := mem_ready.1 ready0
        rw [hop p0 hp0] at ho; cases ho
        exact hall e he hb)
      have h1 := rec_step (Q := fun _ _ _ => False) h hrec (hop p0 hp0) (K := fun a' w' => ∃ j', Rel ρ n X W0 fb ((partI (fun i => listed.getD i false) L F0).rec' p0.2) j' a' w') (fun j' a' w' h' => ⟨j', h'⟩)
      have hwant : Region.wanted p0.2.o (yielded ops a.tmps) = true := by simp [Region.wanted, hfl.guard]
      unfold wpOp at h1
      simp only [hop p0 hp0, hwant, if_true] at h1
      rcases h1 with h1 | ⟨_, a', w', h1⟩
      · obtain ⟨v, hv⟩ := hfl.still a w _ h1
        have h2 := h1
        unfold Oper.wp at h2
        rw [hv w] at h2
        obtain ⟨j', h3⟩ : ∃ j', Rel ρ n X W0 fb ((partI (fun i => listed.getD i false) L F0).rec' p0.2) j' (a.put p0.2.o.dst v) w := h2
        refine wpAny_first (hop p0 hp0) (Region.noSelect_spec hfl.sel) (fun c a w h => absurd h (hQ c _ w)) fuel listed a w (fun k ok hk hne hun hno => ?_) ready0 (.inl ⟨hwant, hv⟩) (hgo j' _ w h3)
        refine Region.free_spec (hop p0 hp0) hfl.free k ok hk hne ?_ hno
        have hkl : k < ops.size := (Array.getElem?_eq_some_iff.1 hk).1
        rw [Array.getD_eq_getD_getElem?, Array.getElem?_replicate, if_pos hkl]
        rfl
      · exact h1.elim
    · refine ⟨fun hnil => (by rw [hnil] at ready0; cases ready0), fun i hi => ?_⟩
      obtain ⟨hun, o, ho, hall⟩ := mem_ready.1 hi
      have hi' : i < ops.size := (Array.getElem?_eq_some_iff.1 ho).1
      rw [gd i hi'] at hun
      have hin : ∃ p ∈ L, p.1 = i := by
        by_cases hh : ∃ p ∈ L, p.1 = i
        · exact hh
        · exfalso
          have hb : base i = false := by
            cases hb : base i with
            | false => rfl
            | true => rw [hbase i hb] at hun; cases hun
          rcases hout i hi' hb (fun p hp e => hh ⟨p, hp, e⟩) p0 hp0 with h1 | h1
          · exact hfl h1
          · have := h1 (fun i => listed.getD i false) hc (fun o' ho2 e he hb2 => by
              rw [ho] at ho2; cases ho2
              exact hall e he hb2)
            (try dsimp only at this)
            rw [hu0] at this
            cases this
      obtain ⟨p, hp, rfl⟩ := hin
      rw [hop p hp] at ho; cases ho
      obtain ⟨hrec, hgo⟩ := step p hp hun hall
      exact rec_step h hrec (hop p hp) (fun j' a' w' h' => hgo j' a' w' h')
end
end Go.Proofs.Ytmkaphfdgdkaoaa
