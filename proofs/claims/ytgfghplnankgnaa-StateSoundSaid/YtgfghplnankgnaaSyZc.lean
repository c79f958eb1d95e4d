/- Texts SyI, SyJ, SyJ2, SyK, SyL, SyM in one. -/
import Derived.Test.YtgfghplnankgnaaSyZb
import Derived.Orders
import Derived.LoopN
/- A region of operations in whatever order it draws: the run in the order of the text tells what every other one comes to. Nothing of the program is in here. -/
set_option linter.unusedVariables false
set_option linter.unusedSimpArgs false
namespace Go.Proofs.Ytgfghplnankgnaa
open Go.RowKit

structure Rec where
  o : Oper
  want : Bool
  nid : Nat
  eff : Eff

def FS.rec' (F : FS) (r : Rec) : FS := F.app r.o.dst r.nid r.eff
def opTs : List Operand → List Nat
  | [] => []
  | .tmp t :: l => t :: opTs l
  | _ :: l => opTs l
theorem opTs_mem {t : Nat} : ∀ {l : List Operand}, .tmp t ∈ l → t ∈ opTs l
  | x :: l, h => by
    rcases List.mem_cons.1 h with rfl | h
    · exact List.mem_cons_self
    · have ih := opTs_mem h
      cases x with
      | tmp u => exact List.mem_cons_of_mem _ ih
      | _ => exact ih
def gTs (ops : Array Oper) (o : Oper) : List Nat :=
  match o.guard with
  | none => []
  | some (g, _) => ((ops[g]?).bind (·.dst)).toList
def Rec.ts (ops : Array Oper) (r : Rec) : List Nat := opTs r.o.op.operands.toList ++ gTs ops r.o

def hasN (t : Nat) : List Nat → Bool
  | [] => false
  | x :: l => Nat.beq x t || hasN t l
def hasP (b o : Nat) : List (Nat × Nat) → Bool
  | [] => false
  | (x, y) :: l => (Nat.beq x b && Nat.beq y o) || hasP b o l
theorem hasN_iff {t : Nat} {l : List Nat} : hasN t l = false ↔ t ∉ l := by
  induction l with
  | nil => simp [hasN]
  | cons x l ih =>
    simp only [hasN, Bool.or_eq_false_iff, ih, List.mem_cons, not_or]
    constructor
    · rintro ⟨h1, h2⟩
      exact ⟨fun e => by rw [e] at h1; simp at h1, h2⟩
    · rintro ⟨h1, h2⟩
      refine ⟨?_, h2⟩
      cases h : x.beq t
      · rfl
      · exact absurd (Nat.eq_of_beq_eq_true h).symm h1
theorem hasP_iff {b o : Nat} {l : List (Nat × Nat)} : hasP b o l = false ↔ (b, o) ∉ l := by
  induction l with
  | nil => simp [hasP]
  | cons x l ih =>
    obtain ⟨x, y⟩ := x
    simp only [hasP, Bool.or_eq_false_iff, ih, List.mem_cons, not_or, Bool.and_eq_false_iff]
    constructor
    · rintro ⟨h1, h2⟩
      refine ⟨fun e => ?_, h2⟩
      cases e
      rcases h1 with h1 | h1 <;> simp at h1
    · rintro ⟨h1, h2⟩
      refine ⟨?_, h2⟩
      cases h : x.beq b
      · exact .inl rfl
      · cases h' : y.beq o
        · exact .inr rfl
        · exact absurd (by rw [Nat.eq_of_beq_eq_true h, Nat.eq_of_beq_eq_true h']) h1

def wrC (l : List (Nat × Nat × C)) : List (Nat × Nat) := l.map fun p => (p.1, p.2.1)
def Rec.rid (r : Rec) : List Nat := (r.eff.re.rs r.nid).map (·.1)
def Rec.touch (r : Rec) : List Nat := r.eff.rd.map (·.1) ++ r.eff.wr.map (·.1)
def Rec.alid (r : Rec) : List Nat := match r.eff.al with | some _ => [r.nid] | none => []
/-- Neither minds whether the other one has been. -/
def indep (ops : Array Oper) (r s : Rec) : Bool :=
  (r.o.dst.toList.all fun d => !hasN d (s.ts ops) && !hasN d s.o.dst.toList) && (s.o.dst.toList.all fun d => !hasN d (r.ts ops)) &&
  ((wrC r.eff.wr).all fun p => !hasP p.1 p.2 s.eff.rd && !hasP p.1 p.2 (wrC s.eff.wr)) && ((wrC s.eff.wr).all fun p => !hasP p.1 p.2 r.eff.rd) &&
  (r.alid.all fun b => !hasN b s.touch && !hasN b s.alid) && (s.alid.all fun b => !hasN b r.touch) &&
  (r.rid.all fun b => !hasN b s.eff.rr && !hasN b s.rid) && (s.rid.all fun b => !hasN b r.eff.rr)

structure Indep (ops : Array Oper) (r s : Rec) : Prop where
  d1 : ∀ d, r.o.dst = some d → d ∉ s.ts ops
  d2 : ∀ d, r.o.dst = some d → s.o.dst ≠ some d
  d3 : ∀ d, s.o.dst = some d → d ∉ r.ts ops
  w1 : ∀ p ∈ r.eff.wr, (p.1, p.2.1) ∉ s.eff.rd
  w2 : ∀ p ∈ r.eff.wr, ∀ q ∈ s.eff.wr, (p.1, p.2.1) ≠ (q.1, q.2.1)
  w3 : ∀ p ∈ s.eff.wr, (p.1, p.2.1) ∉ r.eff.rd
  a1 : r.eff.al ≠ none → r.nid ∉ s.touch
  a2 : r.eff.al ≠ none → s.eff.al ≠ none → r.nid ≠ s.nid
  a3 : s.eff.al ≠ none → s.nid ∉ r.touch
  r1 : ∀ b ∈ r.rid, b ∉ s.eff.rr
  r2 : ∀ b ∈ r.rid, b ∉ s.rid
  r3 : ∀ b ∈ s.rid, b ∉ r.eff.rr

theorem indep_ok {ops : Array Oper} {r s : Rec} (h : indep ops r s = true) : Indep ops r s := by
  simp only [indep, Bool.and_eq_true, List.all_eq_true, Bool.not_eq_true', hasN_iff, hasP_iff, Option.mem_toList] at h
  obtain ⟨⟨⟨⟨⟨⟨⟨h1, h2⟩, h3⟩, h4⟩, h5⟩, h6⟩, h7⟩, h8⟩ := h
  have hal : ∀ {x : Rec}, x.eff.al ≠ none → x.nid ∈ x.alid := fun {x} hx => by
    unfold Rec.alid
    split
    · simp
    · rename_i hn; exact absurd hn hx
  refine ⟨fun d hd => (h1 d hd).1, fun d hd => (h1 d hd).2, fun d hd => h2 d hd, fun p hp => (h3 _ (List.mem_map.2 ⟨p, hp, rfl⟩)).1, fun p hp q hq e => (h3 _ (List.mem_map.2 ⟨p, hp, rfl⟩)).2 (List.mem_map.2 ⟨q, hq, e.symm⟩),
    fun p hp => h4 _ (List.mem_map.2 ⟨p, hp, rfl⟩), fun hx => (h5 _ (hal hx)).1, fun hx hy e => (h5 _ (hal hx)).2 (e ▸ hal hy), fun hx => h6 _ (hal hx), fun b hb => (h7 b hb).1, fun b hb => (h7 b hb).2, h8⟩
theorem Indep.symm {ops : Array Oper} {r s : Rec} (h : Indep ops r s) : Indep ops s r :=
  ⟨h.d3, fun d hd e => h.d2 d e hd, h.d1, h.w3, fun p hp q hq e => h.w2 q hq p hp e.symm, h.w1, h.a3, fun hx hy e => h.a2 hy hx e.symm, h.a1, h.r3, fun b hb hb' => h.r2 b hb' hb, h.r1⟩

/-! ### Cells behind writes -/
theorem ldF_wr (F : FS) (p : Nat × Nat × C) (b o : Nat) : ldF (F.wr p) b o = if b = p.1 ∧ o = p.2.1 then (ldF F b o).map (fun _ => p.2.2) else ldF F b o := by
  unfold ldF FS.wr
  by_cases hb : b = p.1
  · simp only [hb, if_true, true_and]
    cases F.box p.1 with
    | none => simp
    | some x =>
      simp only [Option.map_some, Option.bind_some, List.getElem?_set]
      by_cases ho : o = p.2.1
      · subst ho
        simp only [if_true]
        split
        · rename_i hlt
          simp [List.getElem?_eq_getElem hlt]
        · rename_i hlt
          simp [List.getElem?_eq_none (Nat.le_of_not_lt hlt)]
      · rw [if_neg (fun e : p.2.1 = o => ho e.symm), if_neg ho]
  · simp [hb]
theorem ldF_wrs_other : ∀ {l : List (Nat × Nat × C)} {F : FS} {b o : Nat}, (∀ p ∈ l, (p.1, p.2.1) ≠ (b, o)) → ldF (F.wrs l) b o = ldF F b o
  | [], _, _, _, _ => rfl
  | p :: l, F, b, o, h => by
    have h1 := ldF_wrs_other (l := l) (F := F.wr p) (b := b) (o := o) (fun q hq => h q (List.mem_cons_of_mem _ hq))
    have h2 := h p List.mem_cons_self
    show ldF ((F.wr p).wrs l) b o = _
    rw [h1, ldF_wr, if_neg (fun e => h2 (by rw [e.1, e.2]))]
theorem ldF_wrs_congr : ∀ {l : List (Nat × Nat × C)} {F F' : FS} {b o : Nat}, ldF F b o = ldF F' b o → ldF (F.wrs l) b o = ldF (F'.wrs l) b o
  | [], _, _, _, _, h => h
  | p :: l, F, F', b, o, h => by
    show ldF ((F.wr p).wrs l) b o = ldF ((F'.wr p).wrs l) b o
    exact ldF_wrs_congr (by rw [ldF_wr, ldF_wr, h])
theorem ldF_wrs_some : ∀ {l : List (Nat × Nat × C)} {F : FS} {b o : Nat}, (ldF (F.wrs l) b o).isSome = (ldF F b o).isSome
  | [], _, _, _ => rfl
  | p :: l, F, b, o => by
    have h1 : (ldF ((F.wr p).wrs l) b o).isSome = _ := ldF_wrs_some (l := l)
    show (ldF ((F.wr p).wrs l) b o).isSome = _
    rw [h1, ldF_wr]
    split <;> simp
theorem ldF_new (F : FS) (nid : Nat) (x : List C × Nat) (b o : Nat) : ldF (F.new nid x) b o = if b = nid then x.1[o]? else ldF F b o := by
  unfold ldF FS.new
  by_cases h : b = nid <;> simp [h]
theorem ldF_put (F : FS) (d : Option Nat) (v : V) (b o : Nat) : ldF (F.put d v) b o = ldF F b o := rfl
theorem box_wrs_none : ∀ {l : List (Nat × Nat × C)} {F : FS} {b : Nat}, (F.wrs l).box b = none ↔ F.box b = none
  | [], _, _ => Iff.rfl
  | p :: l, F, b => by
    have h1 : ((F.wr p).wrs l).box b = none ↔ _ := box_wrs_none (l := l)
    show ((F.wr p).wrs l).box b = none ↔ _
    rw [h1]
    unfold FS.wr
    by_cases h : b = p.1 <;> simp [h]

/-! ### Agreement -/
structure Agree (ops : Array Oper) (r : Rec) (F F' : FS) : Prop where
  t : ∀ t ∈ r.ts ops, F.tmp t = F'.tmp t
  rd : ∀ p ∈ r.eff.rd, ldF F p.1 p.2 = ldF F' p.1 p.2
  wr : ∀ p ∈ r.eff.wr, (ldF F p.1 p.2.1).isSome = (ldF F' p.1 p.2.1).isSome
  nw : r.eff.al ≠ none → (F.box r.nid = none ↔ F'.box r.nid = none)
  row : ∀ b ∈ r.eff.rr ++ r.rid, F.row b = F'.row b

theorem tmp_app (F : FS) (d : Option Nat) (nid : Nat) (eff : Eff) (t : Nat) : (F.app d nid eff).tmp t = if d = some t then eff.val else F.tmp t := by
  unfold FS.app FS.put
  dsimp only
  by_cases h : d = some t
  · simp [h]
  · simp only [h, if_false]
    rw [(rws_box _ _).2]
    split
    · rfl
    · have : ∀ (l : List (Nat × Nat × C)) (F : FS), (F.wrs l).tmp = F.tmp := by
        intro l
        induction l with
        | nil => intro F; rfl
        | cons p l ih => intro F; exact ih (F.wr p)
      rw [this]
theorem ldF_rws (F : FS) (l : List (Nat × Option RowOb)) (b o : Nat) : ldF (F.rws l) b o = ldF F b o := by unfold ldF; rw [(rws_box l F).1]
theorem ldF_app (F : FS) (d : Option Nat) (nid : Nat) (eff : Eff) (b o : Nat) : ldF (F.app d nid eff) b o = match eff.al with | some x => if b = nid then x.1[o]? else ldF F b o | none => ldF (F.wrs eff.wr) b o := by
  unfold FS.app
  rw [ldF_put, ldF_rws]
  cases eff.al with
  | some x => exact ldF_new F nid x b o
  | none => rfl
theorem box_app_none (F : FS) (d : Option Nat) (nid : Nat) (eff : Eff) (b : Nat) : (F.app d nid eff).box b = none ↔ match eff.al with | some _ => b ≠ nid ∧ F.box b = none | none => F.box b = none := by
  unfold FS.app FS.put
  dsimp only
  rw [(rws_box _ _).1]
  cases eff.al with
  | some x =>
    unfold FS.new
    by_cases h : b = nid <;> simp [h]
  | none => exact box_wrs_none
theorem wrs_row : ∀ (l : List (Nat × Nat × C)) (F : FS), (F.wrs l).row = F.row
  | [], _ => rfl
  | p :: l, F => wrs_row l (F.wr p)
theorem rws_other : ∀ (l : List (Nat × Option RowOb)) (F : FS) (b : Nat), b ∉ l.map (·.1) → (F.rws l).row b = F.row b
  | [], _, _, _ => rfl
  | p :: l, F, b, h => by
    simp only [List.map_cons, List.mem_cons, not_or] at h
    have h1 := rws_other l (F.rw1 p) b h.2
    show ((F.rw1 p).rws l).row b = _
    rw [h1]
    simp [FS.rw1, h.1]
theorem rws_congr : ∀ (l : List (Nat × Option RowOb)) (F F' : FS) (b : Nat), F.row b = F'.row b → (F.rws l).row b = (F'.rws l).row b
  | [], _, _, _, h => h
  | p :: l, F, F', b, h => rws_congr l (F.rw1 p) (F'.rw1 p) b (by simp only [FS.rw1]; split <;> simp_all)
theorem row_app (F : FS) (d : Option Nat) (nid : Nat) (eff : Eff) : (F.app d nid eff).row = (F.rws (eff.re.rs nid)).row := by
  unfold FS.app FS.put
  dsimp only
  funext b
  apply rws_congr
  split
  · rfl
  · rw [wrs_row]

theorem Agree.refl (ops : Array Oper) (r : Rec) (F : FS) : Agree ops r F F := ⟨fun _ _ => rfl, fun _ _ => rfl, fun _ _ => rfl, fun _ => Iff.rfl, fun _ _ => rfl⟩
theorem Agree.trans {ops : Array Oper} {r : Rec} {F F' F'' : FS} (h : Agree ops r F F') (h' : Agree ops r F' F'') : Agree ops r F F'' :=
  ⟨fun t ht => (h.t t ht).trans (h'.t t ht), fun p hp => (h.rd p hp).trans (h'.rd p hp), fun p hp => (h.wr p hp).trans (h'.wr p hp), fun hx => (h.nw hx).trans (h'.nw hx), fun b hb => (h.row b hb).trans (h'.row b hb)⟩
theorem Agree.symm {ops : Array Oper} {r : Rec} {F F' : FS} (h : Agree ops r F F') : Agree ops r F' F :=
  ⟨fun t ht => (h.t t ht).symm, fun p hp => (h.rd p hp).symm, fun p hp => (h.wr p hp).symm, fun hx => (h.nw hx).symm, fun b hb => (h.row b hb).symm⟩
theorem Agree.congr {ops : Array Oper} {r s : Rec} {F F' : FS} (h : Agree ops r F F') : Agree ops r (F.rec' s) (F'.rec' s) := by
  unfold FS.rec'
  refine ⟨fun t ht => by rw [tmp_app, tmp_app, h.t t ht], fun p hp => ?_, fun p hp => ?_, fun hx => ?_, fun b hb => by rw [row_app, row_app]; exact rws_congr _ _ _ b (h.row b hb)⟩
  · rw [ldF_app, ldF_app]
    split
    · rw [h.rd p hp]
    · exact ldF_wrs_congr (h.rd p hp)
  · rw [ldF_app, ldF_app]
    split
    · split
      · rfl
      · exact h.wr p hp
    · rw [ldF_wrs_some, ldF_wrs_some]; exact h.wr p hp
  · rw [box_app_none, box_app_none]
    split
    · rw [h.nw hx]
    · exact h.nw hx
theorem Agree.step {ops : Array Oper} {r s : Rec} (hi : Indep ops s r) (F : FS) : Agree ops r F (F.rec' s) := by
  unfold FS.rec'
  refine ⟨fun t ht => ?_, fun p hp => ?_, fun p hp => ?_, fun hx => ?_, fun b hb => ?_⟩
  · rw [tmp_app, if_neg (fun e => hi.d1 t e ht)]
  · rw [ldF_app]
    split
    · rename_i x hal
      rw [if_neg (fun e => hi.a1 (by rw [hal]; simp) (by rw [← e]; exact List.mem_append_left _ (List.mem_map.2 ⟨p, hp, rfl⟩)))]
    · exact (ldF_wrs_other (fun q hq e => hi.w1 q hq (by rw [e]; exact hp))).symm
  · rw [ldF_app]
    split
    · rename_i x hal
      rw [if_neg (fun e => hi.a1 (by rw [hal]; simp) (by rw [← e]; exact List.mem_append_right _ (List.mem_map.2 ⟨p, hp, rfl⟩)))]
    · rw [ldF_wrs_some]
  · rw [box_app_none]
    split
    · rename_i x hal
      constructor
      · intro h; exact ⟨fun e => hi.a2 (by rw [hal]; simp) hx e.symm, h⟩
      · exact fun h => h.2
    · exact Iff.rfl
  · rw [row_app, rws_other]
    intro hm
    rcases List.mem_append.1 hb with hb | hb
    · exact hi.r1 b hm hb
    · exact hi.r2 b hm hb

/-! ### Two that mind each other not go either way -/
theorem wr_comm (F : FS) (p q : Nat × Nat × C) (h : (p.1, p.2.1) ≠ (q.1, q.2.1)) : (F.wr p).wr q = (F.wr q).wr p := by
  refine FS.ext' (fun _ => rfl) (fun b => ?_) (fun _ => rfl)
  unfold FS.wr
  dsimp only
  by_cases h1 : b = p.1
  · by_cases h2 : b = q.1
    · have hpq : p.1 = q.1 := h1.symm.trans h2
      have ho : p.2.1 ≠ q.2.1 := fun e => h (by rw [hpq, e])
      simp only [h1, hpq, if_true]
      cases F.box q.1 with
      | none => rfl
      | some x => simp [List.set_comm _ _ ho]
    · simp [h1, h2, show ¬ p.1 = q.1 from fun e => h2 (h1.trans e)]
  · by_cases h2 : b = q.1
    · simp [h1, h2, show ¬ q.1 = p.1 from fun e => h1 (h2.trans e)]
    · simp [h1, h2]
theorem wr_wrs (p : Nat × Nat × C) : ∀ (l : List (Nat × Nat × C)) (F : FS), (∀ q ∈ l, (p.1, p.2.1) ≠ (q.1, q.2.1)) → (F.wr p).wrs l = (F.wrs l).wr p
  | [], _, _ => rfl
  | q :: l, F, h => by
    show ((F.wr p).wr q).wrs l = ((F.wr q).wrs l).wr p
    rw [wr_comm F p q (h q List.mem_cons_self)]
    exact wr_wrs p l (F.wr q) (fun x hx => h x (List.mem_cons_of_mem _ hx))
theorem wrs_wrs : ∀ (l m : List (Nat × Nat × C)) (F : FS), (∀ p ∈ l, ∀ q ∈ m, (p.1, p.2.1) ≠ (q.1, q.2.1)) → (F.wrs l).wrs m = (F.wrs m).wrs l
  | [], _, _, _ => rfl
  | p :: l, m, F, h => by
    show ((F.wr p).wrs l).wrs m = ((F.wrs m).wr p).wrs l
    rw [wrs_wrs l m (F.wr p) (fun x hx => h x (List.mem_cons_of_mem _ hx)), wr_wrs p m F (h p List.mem_cons_self)]
theorem new_wrs (nid : Nat) (x : List C × Nat) : ∀ (l : List (Nat × Nat × C)) (F : FS), (∀ q ∈ l, q.1 ≠ nid) → (F.new nid x).wrs l = (F.wrs l).new nid x
  | [], _, _ => rfl
  | q :: l, F, h => by
    show ((F.new nid x).wr q).wrs l = ((F.wr q).wrs l).new nid x
    have h1 := h q List.mem_cons_self
    have : (F.new nid x).wr q = (F.wr q).new nid x := by
      refine FS.ext' (fun _ => rfl) (fun b => ?_) (fun _ => rfl)
      unfold FS.wr FS.new
      dsimp only
      by_cases hb : b = nid
      · simp [hb, show ¬ nid = q.1 from fun e => h1 e.symm]
      · simp [hb]
    rw [this]
    exact new_wrs nid x l (F.wr q) (fun y hy => h y (List.mem_cons_of_mem _ hy))
theorem put_wrs (d : Option Nat) (v : V) : ∀ (l : List (Nat × Nat × C)) (F : FS), (F.put d v).wrs l = (F.wrs l).put d v
  | [], _ => rfl
  | q :: l, F => put_wrs d v l (F.wr q)

theorem put_rws (d : Option Nat) (v : V) : ∀ (l : List (Nat × Option RowOb)) (F : FS), (F.put d v).rws l = (F.rws l).put d v
  | [], _ => rfl
  | q :: l, F => put_rws d v l (F.rw1 q)
theorem rws_wrs (l : List (Nat × Option RowOb)) (m : List (Nat × Nat × C)) (F : FS) : (F.rws l).wrs m = (F.wrs m).rws l := by
  refine FS.ext' (fun t => ?_) (fun b => ?_) (fun b => ?_)
  · have t1 : ∀ (m : List (Nat × Nat × C)) (F : FS), (F.wrs m).tmp = F.tmp := by
      intro m
      induction m with
      | nil => intro F; rfl
      | cons p m ih => intro F; exact ih (F.wr p)
    rw [t1, (rws_box l F).2, (rws_box l _).2, t1]
  · have b1 : ∀ (m : List (Nat × Nat × C)) (F F' : FS), F.box = F'.box → (F.wrs m).box = (F'.wrs m).box := by
      intro m
      induction m with
      | nil => intro F F' h; exact h
      | cons p m ih => intro F F' h; exact ih _ _ (by simp only [FS.wr, h])
    rw [(rws_box l _).1, b1 m (F.rws l) F (rws_box l F).1]
  · rw [wrs_row]
    exact rws_congr l F (F.wrs m) b (by rw [wrs_row])
theorem rws_new (l : List (Nat × Option RowOb)) (nid : Nat) (x : List C × Nat) (F : FS) : (F.rws l).new nid x = (F.new nid x).rws l := by
  refine FS.ext' (fun t => ?_) (fun b => ?_) (fun b => ?_)
  · rw [(rws_box l _).2]; exact congrFun (rws_box l F).2 t
  · rw [(rws_box l _).1]
    simp only [FS.new, (rws_box l F).1]
  · exact rws_congr l F (F.new nid x) b rfl
theorem rws_rws : ∀ (l m : List (Nat × Option RowOb)) (F : FS), (∀ b ∈ l.map (·.1), b ∉ m.map (·.1)) → (F.rws l).rws m = (F.rws m).rws l
  | l, m, F, h => by
    refine FS.ext' (fun t => ?_) (fun b => ?_) (fun b => ?_)
    · rw [(rws_box m _).2, (rws_box l _).2, (rws_box l _).2, (rws_box m _).2]
    · rw [(rws_box m _).1, (rws_box l _).1, (rws_box l _).1, (rws_box m _).1]
    · by_cases hl : b ∈ l.map (·.1)
      · rw [rws_other m _ b (h b hl)]
        exact rws_congr l F (F.rws m) b (rws_other m F b (h b hl)).symm
      · rw [rws_other l _ b hl]
        exact rws_congr m (F.rws l) F b (rws_other l F b hl)

/-- What is done to boxes. -/
def Rec.bx (r : Rec) (F : FS) : FS := match r.eff.al with | some x => F.new r.nid x | none => F.wrs r.eff.wr
theorem rec_eq (r : Rec) (F : FS) : F.rec' r = ((r.bx F).rws (r.eff.re.rs r.nid)).put r.o.dst r.eff.val := rfl
theorem bx_put (r : Rec) (d : Option Nat) (v : V) (F : FS) : r.bx (F.put d v) = (r.bx F).put d v := by
  unfold Rec.bx
  split
  · rfl
  · exact put_wrs d v _ F
theorem bx_rws (r : Rec) (l : List (Nat × Option RowOb)) (F : FS) : r.bx (F.rws l) = (r.bx F).rws l := by
  unfold Rec.bx
  split
  · exact rws_new l _ _ F
  · exact rws_wrs l _ F
theorem bx_comm {ops : Array Oper} {r s : Rec} (h : Indep ops r s) (F : FS) : s.bx (r.bx F) = r.bx (s.bx F) := by
  unfold Rec.bx
  cases hr : r.eff.al with
  | some x =>
    cases hs : s.eff.al with
    | some y =>
      refine FS.ext' (fun _ => rfl) (fun b => ?_) (fun _ => rfl)
      unfold FS.new
      dsimp only
      have hne := h.a2 (by rw [hr]; simp) (by rw [hs]; simp)
      by_cases h1 : b = s.nid <;> by_cases h2 : b = r.nid <;> simp [h1, h2]
      · exact absurd (h2.symm.trans h1) hne
      · intro e; exact absurd e.symm hne
      · intro e; exact absurd e hne
    | none =>
      have hq : ∀ q ∈ s.eff.wr, q.1 ≠ r.nid := fun q hq e => h.a1 (by rw [hr]; simp) (by rw [← e]; exact List.mem_append_right _ (List.mem_map.2 ⟨q, hq, rfl⟩))
      exact new_wrs _ _ _ F hq
  | none =>
    cases hs : s.eff.al with
    | some y =>
      have hq : ∀ q ∈ r.eff.wr, q.1 ≠ s.nid := fun q hq e => h.a3 (by rw [hs]; simp) (by rw [← e]; exact List.mem_append_right _ (List.mem_map.2 ⟨q, hq, rfl⟩))
      exact (new_wrs _ _ _ F hq).symm
    | none => exact wrs_wrs _ _ F h.w2
theorem rec_comm {ops : Array Oper} {r s : Rec} (h : Indep ops r s) (F : FS) : (F.rec' r).rec' s = (F.rec' s).rec' r := by
  have hp : ∀ F : FS, (F.put r.o.dst r.eff.val).put s.o.dst s.eff.val = (F.put s.o.dst s.eff.val).put r.o.dst r.eff.val := by
    intro F
    refine FS.ext' (fun t => ?_) (fun _ => rfl) (fun _ => rfl)
    unfold FS.put
    dsimp only
    by_cases h1 : s.o.dst = some t <;> by_cases h2 : r.o.dst = some t <;> simp [h1, h2]
    exact absurd h1 (h.d2 t h2)
  rw [rec_eq s, rec_eq r, rec_eq r, rec_eq s, bx_put, bx_rws, put_rws, hp, bx_comm h, rws_rws _ _ _ (fun b hb => h.r2 b hb), bx_put, bx_rws, put_rws]
end Go.Proofs.Ytgfghplnankgnaa


/- A region of operations, in the order of the text or in whatever order it draws. Nothing of the program is in here. -/
set_option linter.unusedVariables false
set_option linter.unusedSimpArgs false
namespace Go.Proofs.Ytgfghplnankgnaa
open Go.RowKit

def part (sel : Nat → Bool) : Nat → List Rec → FS → FS
  | _, [], F => F
  | i, r :: l, F => part sel (i + 1) l (if sel i then F.rec' r else F)
def full (l : List Rec) (F : FS) : FS := l.foldl FS.rec' F

section
variable {P : Program} {ρ : Env} {n : Nat} {X : List Value} {W0 : World} {fb : Nat → Option (List C)} {ops : Array Oper}

theorem part_append (sel : Nat → Bool) : ∀ (l m : List Rec) (i : Nat) (F : FS), part sel i (l ++ m) F = part sel (i + l.length) m (part sel i l F)
  | [], m, i, F => rfl
  | r :: l, m, i, F => by
    simp only [List.cons_append, part, List.length_cons]
    rw [part_append sel l m (i + 1)]
    congr 1
    omega
theorem part_full {sel : Nat → Bool} : ∀ (l : List Rec) (i : Nat) (F : FS), (∀ m, m < l.length → sel (i + m) = true) → part sel i l F = full l F
  | [], _, _, _ => rfl
  | r :: l, i, F, h => by
    have h0 := h 0 (by simp)
    simp only [Nat.add_zero] at h0
    simp only [part, h0, if_true, full, List.foldl_cons]
    exact part_full l (i + 1) _ (fun m hm => by rw [Nat.add_assoc, Nat.add_comm 1 m]; exact h (m + 1) (by simpa using hm))
theorem part_none {sel : Nat → Bool} : ∀ (l : List Rec) (i : Nat) (F : FS), (∀ m, m < l.length → sel (i + m) = false) → part sel i l F = F
  | [], _, _, _ => rfl
  | r :: l, i, F, h => by
    have h0 := h 0 (by simp)
    simp only [Nat.add_zero] at h0
    simp only [part, h0]
    exact part_none l (i + 1) _ (fun m hm => by rw [Nat.add_assoc, Nat.add_comm 1 m]; exact h (m + 1) (by simpa using hm))
theorem part_congr {sel sel' : Nat → Bool} : ∀ (l : List Rec) (i : Nat) (F : FS), (∀ m, m < l.length → sel (i + m) = sel' (i + m)) → part sel i l F = part sel' i l F
  | [], _, _, _ => rfl
  | r :: l, i, F, h => by
    have h0 := h 0 (by simp)
    simp only [Nat.add_zero] at h0
    simp only [part, h0]
    exact part_congr l (i + 1) _ (fun m hm => by rw [Nat.add_assoc, Nat.add_comm 1 m]; exact h (m + 1) (by simpa using hm))

theorem agree_pre {r : Rec} {sel : Nat → Bool} : ∀ (l : List Rec) (i : Nat) (F F' : FS), Agree ops r F F' → (∀ (m : Nat) x, l[m]? = some x → sel (i + m) = false → Indep ops x r) → Agree ops r (full l F) (part sel i l F')
  | [], _, _, _, h, _ => h
  | x :: l, i, F, F', h, hi => by
    simp only [full, List.foldl_cons, part]
    have tail : ∀ (m : Nat) y, l[m]? = some y → sel (i + 1 + m) = false → Indep ops y r := fun m y hm hs => hi (m + 1) y (by simpa using hm) (by rw [Nat.add_assoc, Nat.add_comm 1 m] at hs; exact hs)
    by_cases hs : sel i = true
    · simp only [hs, if_true]
      exact agree_pre l (i + 1) _ _ h.congr tail
    · simp only [hs]
      exact agree_pre l (i + 1) _ _ (((Agree.step (hi 0 x rfl (by simpa using hs)) F).symm).trans h) tail
theorem agree_post {r : Rec} {sel : Nat → Bool} : ∀ (l : List Rec) (i : Nat) (F F' : FS), Agree ops r F F' → (∀ (m : Nat) x, l[m]? = some x → sel (i + m) = true → Indep ops x r) → Agree ops r F (part sel i l F')
  | [], _, _, _, h, _ => h
  | x :: l, i, F, F', h, hi => by
    simp only [part]
    have tail : ∀ (m : Nat) y, l[m]? = some y → sel (i + 1 + m) = true → Indep ops y r := fun m y hm hs => hi (m + 1) y (by simpa using hm) (by rw [Nat.add_assoc, Nat.add_comm 1 m] at hs; exact hs)
    by_cases hs : sel i = true
    · simp only [hs, if_true]
      exact agree_post l (i + 1) _ _ (h.trans (Agree.step (hi 0 x rfl (by simpa using hs)) F')) tail
    · simp only [hs]
      exact agree_post l (i + 1) _ _ h tail
theorem part_rec {r : Rec} {sel : Nat → Bool} : ∀ (l : List Rec) (i : Nat) (F : FS), (∀ (m : Nat) x, l[m]? = some x → sel (i + m) = true → Indep ops x r) → part sel i l (F.rec' r) = (part sel i l F).rec' r
  | [], _, _, _ => rfl
  | x :: l, i, F, hi => by
    simp only [part]
    have tail : ∀ (m : Nat) y, l[m]? = some y → sel (i + 1 + m) = true → Indep ops y r := fun m y hm hs => hi (m + 1) y (by simpa using hm) (by rw [Nat.add_assoc, Nat.add_comm 1 m] at hs; exact hs)
    by_cases hs : sel i = true
    · simp only [hs, if_true]
      rw [← rec_comm (hi 0 x rfl (by simpa using hs))]
      exact part_rec l (i + 1) _ tail
    · simp only [hs]
      exact part_rec l (i + 1) _ tail

/-- What a record says of its operation, at a state. -/
structure RecOk (P : Program) (ρ : Env) (n : Nat) (base : Nat) (fb : Nat → Option (List C)) (ops : Array Oper) (r : Rec) (F : FS) : Prop where
  run : r.want = true → ∃ vw, vw.nid = r.nid ∧ OpOk P ρ base vw r.o r.eff ∧ Sees n fb vw r.o r.eff F
  skip : r.want = false → r.eff = { val := .one .undef }
  guard : match r.o.guard with
    | none => r.want = true
    | some (g, b) => ∃ t, (ops[g]?).bind (·.dst) = some t ∧ t < n ∧ ((∃ e : E, F.tmp t = .one (.bool e) ∧ r.want = (e.B ρ == b)) ∨ (F.tmp t = .one .undef ∧ r.want = false))
  dst : ∀ d, r.o.dst = some d → d < n

theorem RecOk.agree {r : Rec} {F F' : FS} (h : RecOk P ρ n W0.heap.size fb ops r F) (ha : Agree ops r F F') : RecOk P ρ n W0.heap.size fb ops r F' := by
  refine ⟨fun hw => ?_, h.skip, ?_, h.dst⟩
  · obtain ⟨vw, hn, h1, h2⟩ := h.run hw
    have hrow : ∀ b ∈ r.rid, F.row b = F'.row b := fun b hb => ha.row b (List.mem_append_right _ hb)
    refine ⟨vw, hn, h1, ⟨fun x hx v hv => ?_, fun p hp c hc => ?_, fun p hp => ?_, fun hx => by rw [hn]; exact (ha.nw hx).1 (by rw [← hn]; exact h2.nw hx), fun id hid q hq => ?_, ?_, h2.fb, h2.one⟩⟩
    · have h3 := h2.ev x hx v hv
      cases x with
      | tmp t =>
        simp only [evF] at h3 ⊢
        rw [← ha.t t (List.mem_append_left _ (opTs_mem hx))]
        exact h3
      | _ => exact h3
    · rw [← ha.rd p hp]; exact h2.rd p hp c hc
    · obtain ⟨c, hc⟩ := h2.wr p hp
      have := ha.wr p hp
      rw [hc] at this
      exact Option.isSome_iff_exists.1 this.symm
    · have := h2.rr id hid q hq
      unfold rwF at this ⊢
      rw [← ha.row id (List.mem_append_left _ hid)]
      exact this
    · have h3 := h2.re
      rw [hn] at h3 ⊢
      unfold Rec.rid at hrow
      revert h3 hrow
      cases r.eff.re with
      | none => exact fun _ _ => trivial
      | set id q => intro hrow h3; exact ⟨by rw [← hrow id (by simp [RE.rs])]; exact h3.1, h3.2⟩
      | mk rs =>
        intro hrow h3 i hi
        have mem : ∀ (rs : List RowOb) (nid i : Nat), i < rs.length → nid + i ∈ (mkRs nid rs).map (·.1) := by
          intro rs
          induction rs with
          | nil => intro nid i hi; simp at hi
          | cons x rs ih =>
            intro nid i hi
            cases i with
            | zero => simp [mkRs]
            | succ i =>
              simp only [mkRs, List.map_cons, List.mem_cons]
              right
              rw [show nid + (i + 1) = nid + 1 + i by omega]
              exact ih (nid + 1) i (by simpa using hi)
        rw [← hrow _ (mem rs r.nid i hi)]
        exact h3 i hi
      | app old q => intro hrow h3; exact ⟨by rw [← hrow old (by simp [RE.rs])]; exact h3.1, h3.2.1, by rw [← hrow r.nid (by simp [RE.rs])]; exact h3.2.2.1, h3.2.2.2⟩
      | view old q0 q => intro hrow h3; exact ⟨by rw [← hrow old (by simp [RE.rs])]; exact h3.1, h3.2.1, h3.2.2.1, by rw [← hrow r.nid (by simp [RE.rs])]; exact h3.2.2.2.1, h3.2.2.2.2⟩
  · have hg := h.guard
    cases hgd : r.o.guard with
    | none => rw [hgd] at hg; exact hg
    | some p =>
      obtain ⟨g, b⟩ := p
      rw [hgd] at hg
      obtain ⟨t, h1, h2, h3⟩ := hg
      refine ⟨t, h1, h2, ?_⟩
      have : F.tmp t = F'.tmp t := ha.t t (List.mem_append_right _ (by simp [gTs, hgd, h1]))
      rw [← this]
      exact h3

theorem yielded_of {j : J} {a : Act} {w : World} {F : FS} (h : Rel ρ n X W0 fb F j a w) {g t : Nat} (ht : (ops[g]?).bind (·.dst) = some t) (hn : t < n) :
    (∀ e, F.tmp t = .one (.bool e) → yielded ops a.tmps g = some (e.B ρ)) ∧ (F.tmp t = .one .undef → yielded ops a.tmps g = none) := by
  obtain ⟨v, h1, h2⟩ := h.tmp t hn
  constructor
  · intro e he
    rw [he] at h2
    rcases h2 with h2 | h2
    · cases h2
    have := one_bool h2
    subst this
    simp [yielded, ht, h1]
  · intro he
    rw [he] at h2
    rcases h2 with h2 | h2
    · cases h2
    have : v = Go.undef := (Option.some.inj h2).symm
    subst this
    simp [yielded, ht, h1, Go.undef]

theorem rec_step {j : J} {a : Act} {w : World} {F : FS} (h : Rel ρ n X W0 fb F j a w) {r : Rec} (hr : RecOk P ρ n W0.heap.size fb ops r F) {i : Nat} (hi : ops[i]? = some r.o)
    {K : Act → World → Prop} {Q : Exit → Act → World → Prop} (hK : ∀ j' a' w', Rel ρ n X W0 fb (F.rec' r) j' a' w' → K a' w') : wpOp P ops Q i K a w := by
  have hw : Region.wanted r.o (yielded ops a.tmps) = r.want := by
    have hg := hr.guard
    unfold Region.wanted
    cases hgd : r.o.guard with
    | none => rw [hgd] at hg; exact hg.symm
    | some p =>
      obtain ⟨g, b⟩ := p
      rw [hgd] at hg
      obtain ⟨t, h1, h2, h3⟩ := hg
      obtain ⟨h4, h5⟩ := yielded_of h h1 h2
      rcases h3 with ⟨e, h6, h7⟩ | ⟨h6, h7⟩
      · simp only [h4 e h6, h7]
        cases e.B ρ <;> cases b <;> rfl
      · simp only [h5 h6, h7]
        rfl
  unfold wpOp
  simp only [hi, hw]
  cases hwant : r.want with
  | true =>
    obtain ⟨vw, hn, h1, h2⟩ := hr.run hwant
    exact .inl (op_step h h1 h2 hr.dst (by rw [hn]; exact hK))
  | false =>
    have he := hr.skip hwant
    refine hK j _ w ?_
    unfold FS.rec' FS.app
    rw [he]
    exact h.put rfl hr.dst

theorem region_seq : ∀ (post pre : List Rec) (F0 : FS), ops.toList = (pre ++ post).map (·.o) → (∀ (m : Nat) r, post[m]? = some r → RecOk P ρ n W0.heap.size fb ops r (full (pre ++ post.take m) F0)) →
    ∀ {Q : Exit → Act → World → Prop} {j : J} {a : Act} {w : World}, Rel ρ n X W0 fb (full pre F0) j a w → (∀ j' a' w', Rel ρ n X W0 fb (full (pre ++ post) F0) j' a' w' → Q .normal a' w') → wpOps P ops Q (List.range' pre.length post.length) a w
  | [], pre, F0, hl, hr, Q, j, a, w, h, hQ => by
    simp only [List.length_nil, List.range'_zero, wpOps]
    exact hQ j a w (by simpa using h)
  | r :: post, pre, F0, hl, hr, Q, j, a, w, h, hQ => by
    simp only [List.length_cons, List.range'_succ]
    rw [wpOps_cons]
    have h0 := hr 0 r rfl
    simp only [List.take_zero, List.append_nil] at h0
    refine rec_step h h0 ?_ (fun j' a' w' h' => ?_)
    · rw [← Array.getElem?_toList, hl]
      simp
    · have := region_seq post (pre ++ [r]) F0 (by rw [hl]; simp) (fun m x hm => by
        have := hr (m + 1) x (by simpa using hm)
        simpa using this) (Q := Q) (j := j') (a := a') (w := w') (by simpa [full] using h') (fun j'' a'' w'' h'' => hQ j'' a'' w'' (by simpa using h''))
      simpa using this

/-- Closed under what must have come before. -/
def Closed (ops : Array Oper) (sel : Nat → Bool) : Prop := ∀ (i : Nat) o, ops[i]? = some o → sel i = true → ∀ e ∈ o.after, Region.binds .any e = true → sel e.on = true

theorem region_any {L : List Rec} {F0 : FS} (hl : ops.toList = L.map (·.o)) (hr : ∀ (m : Nat) r, L[m]? = some r → RecOk P ρ n W0.heap.size fb ops r (full (L.take m) F0))
    (hback : ∀ (i : Nat) o, ops[i]? = some o → ∀ e ∈ o.after, Region.binds .any e = true → e.on < i)
    (hpair : ∀ (k i : Nat) x r, k < i → L[k]? = some x → L[i]? = some r → Indep ops x r ∨ ∀ sel, Closed ops sel → (∀ o, ops[i]? = some o → ∀ e ∈ o.after, Region.binds .any e = true → sel e.on = true) → sel k = true) {Q : Exit → Act → World → Prop}
    (hQ : ∀ j' a' w', Rel ρ n X W0 fb (full L F0) j' a' w' → Q .normal a' w') :
    ∀ (fuel : Nat) (listed : Array Bool) (j : J) (a : Act) (w : World), listed.size = L.length → Closed ops (fun i => listed.getD i false) → (List.range L.length).countP (fun i => !listed.getD i false) ≤ fuel →
      Rel ρ n X W0 fb (part (fun i => listed.getD i false) 0 L F0) j a w → wpAny P .any ops Q fuel listed a w := by
  have hsz : ops.size = L.length := by rw [← Array.length_toList, hl, List.length_map]
  have hop : ∀ (i : Nat) r, L[i]? = some r → ops[i]? = some r.o := fun i r hi => by rw [← Array.getElem?_toList, hl, List.getElem?_map, hi]; rfl
  have gd : ∀ (listed : Array Bool) (i : Nat), listed.size = L.length → i < L.length → listed.getD i true = listed.getD i false := fun listed i hs hi => by
    rw [Array.getD_eq_getD_getElem?, Array.getD_eq_getD_getElem?, Array.getElem?_eq_getElem (by omega)]; rfl
  have done : ∀ (listed : Array Bool) (j : J) (a : Act) (w : World), listed.size = L.length → Closed ops (fun i => listed.getD i false) → Rel ρ n X W0 fb (part (fun i => listed.getD i false) 0 L F0) j a w → Region.ready .any ops listed = [] → Q .normal a w := by
    intro listed j a w hs hc h hnil
    refine hQ j a w ?_
    have hall : ∀ i, i < L.length → listed.getD i false = true := by
      intro i
      induction i using Nat.strongRecOn with
      | _ i ih =>
        intro hi
        cases hb : listed.getD i false with
        | true => rfl
        | false =>
          exfalso
          have : i ∈ Region.ready .any ops listed := by
            unfold Region.ready
            simp only [List.mem_filter, List.mem_range, Bool.and_eq_true, Bool.not_eq_true']
            obtain ⟨r, hr'⟩ : ∃ r, L[i]? = some r := ⟨L[i], List.getElem?_eq_getElem hi⟩
            have ho := hop i r hr'
            refine ⟨by omega, ?_, ?_⟩
            · rw [gd listed i hs hi]; exact hb
            · rw [ho]
              simp only [Option.map_some, Option.getD_some, Array.all_eq_true_iff_forall_mem, Bool.or_eq_true, Bool.not_eq_true']
              intro e he
              cases hbd : Region.binds .any e with
              | false => exact .inl rfl
              | true =>
                have hlt := hback i _ ho e he hbd
                exact .inr (ih e.on hlt (by omega))
          rw [hnil] at this
          cases this
    rw [part_full L 0 F0 (fun m hm => by simpa using hall m hm)] at h
    exact h
  intro fuel
  induction fuel with
  | zero =>
    intro listed j a w hs hc hf h
    have hall : ∀ i, i < L.length → listed.getD i false = true := fun i hi => by
      have := List.countP_eq_zero.1 (Nat.le_zero.1 hf) i (List.mem_range.2 hi)
      simpa using this
    have hnil : Region.ready .any ops listed = [] := by
      unfold Region.ready
      rw [List.filter_eq_nil_iff]
      intro i hi
      have hi' : i < L.length := by rw [List.mem_range] at hi; omega
      rw [gd listed i hs hi', hall i hi']
      simp
    exact ⟨hnil, done listed j a w hs hc h hnil⟩
  | succ fuel ih =>
    intro listed j a w hs hc hf h
    refine ⟨fun hnil => done listed j a w hs hc h hnil, fun i hi => ?_⟩
    obtain ⟨hun, o, ho, hall⟩ := mem_ready.1 hi
    have hi' : i < L.length := by
      rw [← hsz]
      rcases Nat.lt_or_ge i ops.size with h1 | h1
      · exact h1
      · rw [Array.getElem?_eq_none h1] at ho; cases ho
    obtain ⟨r, hr'⟩ : ∃ r, L[i]? = some r := ⟨L[i], List.getElem?_eq_getElem hi'⟩
    have ho' := hop i r hr'
    rw [ho] at ho'
    cases ho'
    have hun' : listed.getD i false = false := by rw [← gd listed i hs hi']; exact hun
    have hsplit : L = L.take i ++ r :: L.drop (i + 1) := by
      rw [List.getElem?_eq_getElem hi'] at hr'
      cases hr'
      simp
    have hlen : (L.take i).length = i := by simp; omega
    -- the ones that have not come although earlier, and those that have come although later
    have hpre : ∀ (m : Nat) x, (L.take i)[m]? = some x → listed.getD (0 + m) false = false → Indep ops x r := by
      intro m x hm hsel
      have hmi : m < i := by
        rcases Nat.lt_or_ge m i with h1 | h1
        · exact h1
        · rw [List.getElem?_eq_none (by omega)] at hm; cases hm
      rw [List.getElem?_take_of_lt hmi] at hm
      rcases hpair m i x r hmi hm hr' with h1 | h1
      · exact h1
      · exfalso
        have := h1 (fun i => listed.getD i false) hc (fun o' ho2 e he hb => by
          rw [ho] at ho2; cases ho2
          exact hall e he hb)
        simp only [Nat.zero_add] at hsel
        rw [hsel] at this
        cases this
    have hpost : ∀ (m : Nat) x, (L.drop (i + 1))[m]? = some x → listed.getD (i + 1 + m) false = true → Indep ops x r := by
      intro m x hm hsel
      rw [List.getElem?_drop] at hm
      rcases hpair i (i + 1 + m) r x (by omega) hr' hm with h1 | h1
      · exact h1.symm
      · exfalso
        have := h1 (fun i => listed.getD i false) hc (fun o' ho2 e he hb => hc (i + 1 + m) o' ho2 hsel e he hb)
        rw [hun'] at this
        cases this
    have hF : part (fun i => listed.getD i false) 0 L F0 = part (fun i => listed.getD i false) (i + 1) (L.drop (i + 1)) (part (fun i => listed.getD i false) 0 (L.take i) F0) := by
      conv => lhs; rw [hsplit]
      rw [part_append, hlen, Nat.zero_add]
      simp only [part, hun']
      rfl
    have hag : Agree ops r (full (L.take i) F0) (part (fun i => listed.getD i false) 0 L F0) := by
      rw [hF]
      exact agree_post _ _ _ _ (agree_pre _ 0 _ _ (Agree.refl ops r F0) hpre) hpost
    have hok := (hr i r hr').agree hag
    refine rec_step h hok ho (fun j' a' w' h' => ?_)
    have hsz' : (listed.setIfInBounds i true).size = L.length := by simp [hs]
    have hget : ∀ k, (listed.setIfInBounds i true).getD k false = if k = i then true else listed.getD k false := by
      intro k
      rw [Array.getD_eq_getD_getElem?, Array.getElem?_setIfInBounds]
      by_cases hk : k = i
      · subst hk
        simp [hs, hi']
      · have hik : ¬ i = k := fun e => hk e.symm
        simp [hk, hik, Array.getD_eq_getD_getElem?]
    refine ih _ j' a' w' hsz' ?_ ?_ ?_
    · intro k o' hk hsel e he hb
      simp only [hget] at hsel ⊢
      by_cases hki : k = i
      · subst hki
        rw [ho] at hk; cases hk
        split
        · rfl
        · exact hall e he hb
      · rw [if_neg hki] at hsel
        split
        · rfl
        · exact hc k o' hk hsel e he hb
    · have : (List.range L.length).countP (fun k => !(listed.setIfInBounds i true).getD k false) < (List.range L.length).countP (fun k => !listed.getD k false) := by
        have e1 : (List.range L.length) = List.range i ++ i :: (List.range' (i + 1) (L.length - (i + 1))) := by
          have h1 : i :: List.range' (i + 1) (L.length - (i + 1)) = List.range' i (L.length - i) := by
            rw [show L.length - i = (L.length - (i + 1)) + 1 by omega, List.range'_succ]
          have h2 := List.range'_append_1 (s := 0) (m := i) (n := L.length - i)
          rw [Nat.zero_add, show i + (L.length - i) = L.length by omega] at h2
          rw [h1, List.range_eq_range', List.range_eq_range', h2]
        rw [e1, List.countP_append, List.countP_append, List.countP_cons, List.countP_cons]
        have c1 : ∀ l : List Nat, i ∉ l → l.countP (fun k => !(listed.setIfInBounds i true).getD k false) = l.countP (fun k => !listed.getD k false) := by
          intro l hl'
          apply List.countP_congr
          intro k hk
          have : k ≠ i := fun e => hl' (e ▸ hk)
          simp only [hget, this, if_false]
        rw [c1 _ (by simp), c1 _ (by rw [List.mem_range'_1]; omega)]
        simp [hget, hun']
      omega
    · have : part (fun k => (listed.setIfInBounds i true).getD k false) 0 L F0 = (part (fun i => listed.getD i false) 0 L F0).rec' r := by
        rw [hF]
        conv => lhs; rw [hsplit]
        rw [part_append, hlen, Nat.zero_add]
        simp only [part, hget, if_true]
        rw [part_congr (sel' := fun i => listed.getD i false) (L.take i) 0 F0 (fun m hm => by
          have : m ≠ i := by rw [hlen] at hm; omega
          simp [this])]
        rw [part_congr (sel' := fun i => listed.getD i false) (L.drop (i + 1)) (i + 1) _ (fun m hm => by
          have : ¬ i + 1 + m = i := by omega
          simp [this])]
        exact part_rec _ _ _ hpost
      rw [this]
      exact h'
end
end Go.Proofs.Ytgfghplnankgnaa


/- A part of a region's operations, in whatever order they come; one that the world has no part in may come later than its place. Nothing of the program is in here. -/
set_option linter.unusedVariables false
set_option linter.unusedSimpArgs false
namespace Go.Proofs.Ytgfghplnankgnaa
open Go Go.RowKit

section
variable {P : Program}
/-- An operation that the world has no part in. -/
def Still (P : Program) (o : Oper) (a : Act) : Prop := ∃ v, ∀ w, (execOp a.eval o).run P w = .ok (.value v) w
theorem still_move {o : Oper} {x : Operand} (h : o.op = .move x ∨ o.op = .assign x) (a : Act) : Still P o a := ⟨a.eval x, fun w => by rcases h with h | h <;> simp [execOp, h]⟩
theorem sureAddr_no {v : Value} (hv : ∀ ad, v ≠ .pointer (some ad)) (w : World) : ∃ x w', (Instr.sureAddr v).run P w = .halt x w' := by
  cases v with
  | pointer p =>
    cases p with
    | some ad => exact absurd rfl (hv ad)
    | none => exact ⟨_, _, rfl⟩
  | _ => exact ⟨_, _, rfl⟩
theorem fieldAt_no {s f : Nat} {v : Value} (hv : ∀ ad, v ≠ .pointer (some ad)) (w : World) : ∃ x w', (Instr.fieldAt s v f).run P w = .halt x w' := by
  unfold Instr.fieldAt
  simp only [Sem.run_bind]
  cases h : (underlying s).run P w with
  | halt x w1 => exact ⟨x, w1, rfl⟩
  | ok d w1 =>
    simp only [Result.andThen_ok]
    split
    · split
      · simp only [Sem.run_bind]
        obtain ⟨x, w2, h2⟩ := sureAddr_no hv w1
        rw [h2]
        exact ⟨x, w2, rfl⟩
      · exact ⟨_, _, rfl⟩
    · exact ⟨_, _, rfl⟩
theorem still_field {o : Oper} {s : Nat} {x : Operand} {f : Nat} (h : o.op = .fieldAddr s x f) {i : TI} (ht : TIok P s i) {off ft : Nat} (hf : i.fields[f]? = some (off, ft)) {a : Act} {w : World} {K : Act → World → Prop} (hw : o.wp P a w K fun _ _ _ => False) : Still P o a := by
  by_cases hx : ∃ ad, a.eval x = .pointer (some ad)
  · obtain ⟨ad, hx⟩ := hx
    exact ⟨.pointer (some (ad.add off)), fun w => by simp [execOp, h, hx, Sem.run_bind, ht.fieldAt f off ft hf w ad]⟩
  · exfalso
    obtain ⟨y, w', h2⟩ := fieldAt_no (P := P) (s := s) (f := f) (v := a.eval x) (fun ad e => hx ⟨ad, e⟩) w
    unfold Oper.wp at hw
    simp only [execOp, h, Sem.run_bind, h2] at hw
    cases y <;> exact hw
theorem wp_monoQ {o : Oper} {a : Act} {w : World} {K : Act → World → Prop} {Q Q' : Exit → Act → World → Prop} (h : ∀ e a w, Q e a w → Q' e a w) (hh : o.wp P a w K Q) : o.wp P a w K Q' := by
  unfold Oper.wp at *
  generalize (execOp a.eval o).run P w = r at *
  cases r with
  | ok n w' =>
    cases n <;> simp only [Oper.upon] at hh ⊢ <;>
      first
        | exact hh
        | exact Calls.mono hh (fun e w'' he => by cases e <;> first | exact he | exact h _ _ _ he | exact (let ⟨a, w, q⟩ := he; ⟨a, w, h _ _ _ q⟩))
  | halt x w' => cases x <;> simp only [Oper.upon] at hh ⊢ <;> first | exact h _ _ _ hh | exact hh
theorem wpOp_monoQ {ops : Array Oper} {i : Nat} {a : Act} {w : World} {K : Act → World → Prop} {Q Q' : Exit → Act → World → Prop} (h : ∀ e a w, Q e a w → Q' e a w) (hh : wpOp P ops Q i K a w) : wpOp P ops Q' i K a w := by
  unfold wpOp at *
  split
  · rename_i ho; simpa [ho] using hh
  · rename_i o ho
    simp only [ho] at hh
    split
    · rename_i hw; simp only [hw, if_true] at hh; exact hh.imp (wp_monoQ h) (fun ⟨p, a, w, q⟩ => ⟨p, a, w, h _ _ _ q⟩)
    · rename_i hw; simp only [hw] at hh; exact hh
theorem wpAny_monoQ {ops : Array Oper} {Q Q' : Exit → Act → World → Prop} (h : ∀ e a w, Q e a w → Q' e a w) : ∀ (fuel : Nat) (listed : Array Bool) (a : Act) (w : World), wpAny P .any ops Q fuel listed a w → wpAny P .any ops Q' fuel listed a w
  | 0, listed, a, w, hh => ⟨hh.1, h _ _ _ hh.2⟩
  | fuel + 1, listed, a, w, hh => ⟨fun hr => h _ _ _ (hh.1 hr), fun i hi => wpOp_monoQ h (wpOp_mono (fun a w q => wpAny_monoQ h fuel _ a w q) (hh.2 i hi))⟩
end

def partI (sel : Nat → Bool) : List (Nat × Rec) → FS → FS
  | [], F => F
  | p :: l, F => partI sel l (if sel p.1 then F.rec' p.2 else F)
def fullI (l : List (Nat × Rec)) (F : FS) : FS := l.foldl (fun F p => F.rec' p.2) F
def cnt (ops : Array Oper) (l : Array Bool) : Nat := (List.range ops.size).countP fun i => !l.getD i false
/-- What must come ahead of an operation. -/
def Forced (ops : Array Oper) (k i : Nat) : Prop := ∀ sel, Closed ops sel → (∀ o, ops[i]? = some o → ∀ e ∈ o.after, Region.binds .any e = true → sel e.on = true) → sel k = true

section
variable {P : Program} {ρ : Env} {n : Nat} {X : List Value} {W0 : World} {fb : Nat → Option (List C)} {ops : Array Oper}

theorem partI_append (sel : Nat → Bool) : ∀ (l m : List (Nat × Rec)) (F : FS), partI sel (l ++ m) F = partI sel m (partI sel l F)
  | [], m, F => rfl
  | p :: l, m, F => by simp only [List.cons_append, partI]; exact partI_append sel l m _
theorem partI_full {sel : Nat → Bool} : ∀ (l : List (Nat × Rec)) (F : FS), (∀ p ∈ l, sel p.1 = true) → partI sel l F = fullI l F
  | [], _, _ => rfl
  | p :: l, F, h => by
    simp only [partI, h p List.mem_cons_self, if_true, fullI, List.foldl_cons]
    exact partI_full l _ (fun q hq => h q (List.mem_cons_of_mem _ hq))
theorem partI_none {sel : Nat → Bool} : ∀ (l : List (Nat × Rec)) (F : FS), (∀ p ∈ l, sel p.1 = false) → partI sel l F = F
  | [], _, _ => rfl
  | p :: l, F, h => by
    simp only [partI, h p List.mem_cons_self]
    exact partI_none l _ (fun q hq => h q (List.mem_cons_of_mem _ hq))
theorem partI_congr {sel sel' : Nat → Bool} : ∀ (l : List (Nat × Rec)) (F : FS), (∀ p ∈ l, sel p.1 = sel' p.1) → partI sel l F = partI sel' l F
  | [], _, _ => rfl
  | p :: l, F, h => by
    simp only [partI, h p List.mem_cons_self]
    exact partI_congr l _ (fun q hq => h q (List.mem_cons_of_mem _ hq))
theorem agreeI_pre {r : Rec} {sel : Nat → Bool} : ∀ (l : List (Nat × Rec)) (F F' : FS), Agree ops r F F' → (∀ p ∈ l, sel p.1 = false → Indep ops p.2 r) → Agree ops r (fullI l F) (partI sel l F')
  | [], _, _, h, _ => h
  | x :: l, F, F', h, hi => by
    simp only [fullI, List.foldl_cons, partI]
    have tail : ∀ p ∈ l, sel p.1 = false → Indep ops p.2 r := fun p hp => hi p (List.mem_cons_of_mem _ hp)
    by_cases hs : sel x.1 = true
    · simp only [hs, if_true]
      exact agreeI_pre l _ _ h.congr tail
    · simp only [hs]
      exact agreeI_pre l _ _ (((Agree.step (hi x List.mem_cons_self (by simpa using hs)) F).symm).trans h) tail
theorem agreeI_post {r : Rec} {sel : Nat → Bool} : ∀ (l : List (Nat × Rec)) (F F' : FS), Agree ops r F F' → (∀ p ∈ l, sel p.1 = true → Indep ops p.2 r) → Agree ops r F (partI sel l F')
  | [], _, _, h, _ => h
  | x :: l, F, F', h, hi => by
    simp only [partI]
    have tail : ∀ p ∈ l, sel p.1 = true → Indep ops p.2 r := fun p hp => hi p (List.mem_cons_of_mem _ hp)
    by_cases hs : sel x.1 = true
    · simp only [hs, if_true]
      exact agreeI_post l _ _ (h.trans (Agree.step (hi x List.mem_cons_self hs) F')) tail
    · simp only [hs]
      exact agreeI_post l _ _ h tail
theorem partI_rec {r : Rec} {sel : Nat → Bool} : ∀ (l : List (Nat × Rec)) (F : FS), (∀ p ∈ l, sel p.1 = true → Indep ops p.2 r) → partI sel l (F.rec' r) = (partI sel l F).rec' r
  | [], _, _ => rfl
  | x :: l, F, hi => by
    simp only [partI]
    have tail : ∀ p ∈ l, sel p.1 = true → Indep ops p.2 r := fun p hp => hi p (List.mem_cons_of_mem _ hp)
    by_cases hs : sel x.1 = true
    · simp only [hs, if_true]
      rw [← rec_comm (hi x List.mem_cons_self hs)]
      exact partI_rec l _ tail
    · simp only [hs]
      exact partI_rec l _ tail

/-- One that may come later: the world has no part in it, and no other one minds its number. -/
structure Float (P : Program) (ops : Array Oper) (i : Nat) (o : Oper) : Prop where
  still : ∀ a w K, o.wp P a w K (fun _ _ _ => False) → Still P o a
  guard : o.guard = none
  sel : Region.noSelect ops = true
  free : Region.free .any ops (Array.replicate ops.size false) i = true

theorem cnt_set {listed : Array Bool} {i : Nat} (hs : listed.size = ops.size) (hi : i < ops.size) (hun : listed.getD i false = false) : cnt ops (listed.setIfInBounds i true) < cnt ops listed := by
  have hget : ∀ k, (listed.setIfInBounds i true).getD k false = if k = i then true else listed.getD k false := by
    intro k
    rw [Array.getD_eq_getD_getElem?, Array.getElem?_setIfInBounds]
    by_cases hk : k = i
    · subst hk; simp [hs, hi]
    · have hik : ¬ i = k := fun e => hk e.symm
      simp [hk, hik, Array.getD_eq_getD_getElem?]
  unfold cnt
  have e1 : (List.range ops.size) = List.range i ++ i :: (List.range' (i + 1) (ops.size - (i + 1))) := by
    have h1 : i :: List.range' (i + 1) (ops.size - (i + 1)) = List.range' i (ops.size - i) := by
      rw [show ops.size - i = (ops.size - (i + 1)) + 1 by omega, List.range'_succ]
    have h2 := List.range'_append_1 (s := 0) (m := i) (n := ops.size - i)
    rw [Nat.zero_add, show i + (ops.size - i) = ops.size by omega] at h2
    rw [h1, List.range_eq_range', List.range_eq_range', h2]
  rw [e1, List.countP_append, List.countP_append, List.countP_cons, List.countP_cons]
  have c1 : ∀ l : List Nat, i ∉ l → l.countP (fun k => !(listed.setIfInBounds i true).getD k false) = l.countP (fun k => !listed.getD k false) := by
    intro l hl'
    apply List.countP_congr
    intro k hk
    have : k ≠ i := fun e => hl' (e ▸ hk)
    simp only [hget, this, if_false]
  rw [c1 _ (by simp), c1 _ (by rw [List.mem_range'_1]; omega)]
  simp [hget, hun]

theorem closed_set {listed : Array Bool} {i : Nat} {o : Oper} (hs : listed.size = ops.size) (ho : ops[i]? = some o) (hc : Closed ops (fun i => listed.getD i false)) (hall : ∀ e ∈ o.after, Region.binds .any e = true → listed.getD e.on false = true) :
    Closed ops (fun k => (listed.setIfInBounds i true).getD k false) := by
  have hi : i < ops.size := (Array.getElem?_eq_some_iff.1 ho).1
  intro k o' hk hsel e he hb
  by_cases hki : k = i
  · subst hki
    rw [ho] at hk; cases hk
    exact getD_set_true (hall e he hb)
  · dsimp only at hsel
    rw [getD_set_ne false (Ne.symm hki)] at hsel
    exact getD_set_true (hc k o' hk hsel e he hb)

/-- A part of a region. -/
theorem seg_any {L : List (Nat × Rec)} {F0 : FS} {base : Nat → Bool} {Q : Exit → Act → World → Prop} (hQ : ∀ c a w, ¬ Q (.panic c) a w)
    (hop : ∀ p ∈ L, ops[p.1]? = some p.2.o) (hnd : (L.map (·.1)).Nodup)
    (hr : ∀ (m : Nat) p, L[m]? = some p → RecOk P ρ n W0.heap.size fb ops p.2 (fullI (L.take m) F0))
    (hpair : ∀ (m q : Nat) x r, m < q → L[m]? = some x → L[q]? = some r → Indep ops x.2 r.2 ∨ Forced ops x.1 r.1)
    (hback : ∀ p ∈ L, ∀ e ∈ p.2.o.after, Region.binds .any e = true → e.on < p.1 ∧ (base e.on = true ∨ ∃ q ∈ L, q.1 = e.on))
    (hout : ∀ i, i < ops.size → base i = false → (∀ p ∈ L, p.1 ≠ i) → ∀ p ∈ L, Float P ops p.1 p.2.o ∨ Forced ops p.1 i)
    (hend : ∀ (listed : Array Bool) (j : J) (a : Act) (w : World), listed.size = ops.size → Closed ops (fun i => listed.getD i false) → (∀ i, listed.getD i false = true ↔ (base i = true ∨ ∃ p ∈ L, p.1 = i)) →
      Rel ρ n X W0 fb (fullI L F0) j a w → ∀ fuel, cnt ops listed ≤ fuel → wpAny P .any ops Q fuel listed a w) :
    ∀ (N : Nat) (listed : Array Bool) (j : J) (a : Act) (w : World), L.countP (fun p => !listed.getD p.1 false) ≤ N → listed.size = ops.size → Closed ops (fun i => listed.getD i false) →
      (∀ i, listed.getD i false = true → base i = true ∨ ∃ p ∈ L, p.1 = i) → (∀ i, base i = true → listed.getD i false = true) →
      Rel ρ n X W0 fb (partI (fun i => listed.getD i false) L F0) j a w → ∀ fuel, cnt ops listed ≤ fuel → wpAny P .any ops Q fuel listed a w := by
  have all_or : ∀ (listed : Array Bool), (∀ p ∈ L, listed.getD p.1 false = true) ∨ ∃ p ∈ L, listed.getD p.1 false = false ∧ ∀ q ∈ L, listed.getD q.1 false = false → p.1 ≤ q.1 := by
    intro listed
    by_cases h : ∃ p ∈ L, listed.getD p.1 false = false
    · right
      have key : ∀ (k : Nat), (∃ p ∈ L, listed.getD p.1 false = false ∧ p.1 ≤ k) → ∃ p ∈ L, listed.getD p.1 false = false ∧ ∀ q ∈ L, listed.getD q.1 false = false → p.1 ≤ q.1 := by
        intro k
        induction k using Nat.strongRecOn with
        | _ k ih =>
          rintro ⟨p, hp, hu, hk⟩
          by_cases hm : ∃ q ∈ L, listed.getD q.1 false = false ∧ q.1 < p.1
          · obtain ⟨q, hq, hqu, hlt⟩ := hm
            exact ih q.1 (by omega) ⟨q, hq, hqu, Nat.le_refl _⟩
          · refine ⟨p, hp, hu, fun q hq hqu => ?_⟩
            rcases Nat.lt_or_ge q.1 p.1 with h1 | h1
            · exact absurd ⟨q, hq, hqu, h1⟩ hm
            · exact h1
      obtain ⟨p, hp, hu⟩ := h
      exact key p.1 ⟨p, hp, hu, Nat.le_refl _⟩
    · left
      intro p hp
      cases hb : listed.getD p.1 false with
      | true => rfl
      | false => exact absurd ⟨p, hp, hb⟩ h
  have idx : ∀ {p q : Nat × Rec}, p ∈ L → q ∈ L → p.1 = q.1 → p = q := by
    intro p q hp hq e
    obtain ⟨m, hm⟩ := List.getElem?_of_mem hp
    obtain ⟨m', hm'⟩ := List.getElem?_of_mem hq
    have h1 : (L.map (·.1))[m]? = some p.1 := by rw [List.getElem?_map, hm]; rfl
    have h2 : (L.map (·.1))[m']? = some p.1 := by rw [List.getElem?_map, hm', e]; rfl
    have : m = m' := (List.getElem?_inj (List.getElem?_eq_some_iff.1 h1).1 hnd).1 (h1.trans h2.symm)
    subst this
    rw [hm] at hm'
    cases hm'
    rfl
  intro N
  induction N with
  | zero =>
    intro listed j a w hN hs hc hsub hbase h fuel hf
    have hall : ∀ p ∈ L, listed.getD p.1 false = true := fun p hp => by
      have := List.countP_eq_zero.1 (Nat.le_zero.1 hN) p hp
      simpa using this
    rw [partI_full L F0 hall] at h
    exact hend listed j a w hs hc (fun i => ⟨hsub i, fun h => by
      rcases h with h | ⟨p, hp, rfl⟩
      · exact hbase i h
      · exact hall p hp⟩) h fuel hf
  | succ N ih =>
    intro listed j a w hN hs hc hsub hbase h fuel hf
    rcases all_or listed with hall | ⟨p0, hp0, hu0, hmin⟩
    · rw [partI_full L F0 hall] at h
      exact hend listed j a w hs hc (fun i => ⟨hsub i, fun h => by
      rcases h with h | ⟨p, hp, rfl⟩
      · exact hbase i h
      · exact hall p hp⟩) h fuel hf
    have gd : ∀ i, i < ops.size → listed.getD i true = listed.getD i false := fun i hi => by
      rw [Array.getD_eq_getD_getElem?, Array.getD_eq_getD_getElem?, Array.getElem?_eq_getElem (by omega)]; rfl
    have lt0 : p0.1 < ops.size := (Array.getElem?_eq_some_iff.1 (hop p0 hp0)).1
    have ready0 : p0.1 ∈ Region.ready .any ops listed := by
      rw [mem_ready]
      refine ⟨by rw [gd _ lt0]; exact hu0, p0.2.o, hop p0 hp0, fun e he hb => ?_⟩
      obtain ⟨h1, h2⟩ := hback p0 hp0 e he hb
      rcases h2 with h2 | ⟨q, hq, e1⟩
      · exact hbase _ h2
      · cases hb2 : listed.getD e.on false with
        | true => rfl
        | false =>
          have := hmin q hq (by rw [e1]; exact hb2)
          omega
    obtain ⟨fuel, rfl⟩ : ∃ f, fuel = f + 1 := by
      cases fuel with
      | zero => have := cnt_set (ops := ops) hs lt0 hu0; omega
      | succ f => exact ⟨f, rfl⟩
    -- what a step of the part leads to
    have step : ∀ p ∈ L, listed.getD p.1 false = false → (∀ e ∈ p.2.o.after, Region.binds .any e = true → listed.getD e.on false = true) →
        RecOk P ρ n W0.heap.size fb ops p.2 (partI (fun i => listed.getD i false) L F0) ∧
        ∀ j' a' w', Rel ρ n X W0 fb ((partI (fun i => listed.getD i false) L F0).rec' p.2) j' a' w' → wpAny P .any ops Q fuel (listed.setIfInBounds p.1 true) a' w' := by
      intro p hp hun hall
      obtain ⟨m, hm⟩ := List.getElem?_of_mem hp
      have hml : m < L.length := (List.getElem?_eq_some_iff.1 hm).1
      have hsplit : L = L.take m ++ p :: L.drop (m + 1) := by
        rw [List.getElem?_eq_getElem hml] at hm
        cases hm
        simp
      have hpre : ∀ q ∈ L.take m, listed.getD q.1 false = false → Indep ops q.2 p.2 := by
        intro q hq hsel
        obtain ⟨k, hk⟩ := List.getElem?_of_mem hq
        have hkm : k < m := by
          have := (List.getElem?_eq_some_iff.1 hk).1
          rw [List.length_take] at this
          omega
        rw [List.getElem?_take_of_lt hkm] at hk
        rcases hpair k m q p hkm hk hm with h1 | h1
        · exact h1
        · exfalso
          have := h1 (fun i => listed.getD i false) hc (fun o' ho2 e he hb => by
            rw [hop p hp] at ho2; cases ho2
            exact hall e he hb)
          (try dsimp only at this)
          rw [hsel] at this
          cases this
      have hpost : ∀ q ∈ L.drop (m + 1), listed.getD q.1 false = true → Indep ops q.2 p.2 := by
        intro q hq hsel
        obtain ⟨k, hk⟩ := List.getElem?_of_mem hq
        rw [List.getElem?_drop] at hk
        rcases hpair m (m + 1 + k) p q (by omega) hm hk with h1 | h1
        · exact h1.symm
        · exfalso
          have := h1 (fun i => listed.getD i false) hc (fun o' ho2 e he hb => hc q.1 o' ho2 hsel e he hb)
          (try dsimp only at this)
          rw [hun] at this
          cases this
      have hF : partI (fun i => listed.getD i false) L F0 = partI (fun i => listed.getD i false) (L.drop (m + 1)) (partI (fun i => listed.getD i false) (L.take m) F0) := by
        conv => lhs; rw [hsplit]
        rw [partI_append]
        simp only [partI, hun]
        rfl
      have hag : Agree ops p.2 (fullI (L.take m) F0) (partI (fun i => listed.getD i false) L F0) := by
        rw [hF]
        exact agreeI_post _ _ _ (agreeI_pre _ _ _ (Agree.refl ops p.2 F0) hpre) hpost
      refine ⟨(hr m p hm).agree hag, fun j' a' w' h' => ?_⟩
      have hpi : p.1 < ops.size := (Array.getElem?_eq_some_iff.1 (hop p hp)).1
      have hget : ∀ k, (listed.setIfInBounds p.1 true).getD k false = if k = p.1 then true else listed.getD k false := by
        intro k
        rw [Array.getD_eq_getD_getElem?, Array.getElem?_setIfInBounds]
        by_cases hk : k = p.1
        · subst hk; simp [hs, hpi]
        · have hik : ¬ p.1 = k := fun e => hk e.symm
          simp [hk, hik, Array.getD_eq_getD_getElem?]
      have notin : ∀ q, q ∈ L.take m ∨ q ∈ L.drop (m + 1) → q.1 ≠ p.1 := by
        intro q hq e
        have hqL : q ∈ L := by
          rcases hq with hq | hq
          · exact List.mem_of_mem_take hq
          · exact List.mem_of_mem_drop hq
        have e2 := idx hqL hp e
        subst e2
        have hnd' := hnd
        rw [hsplit, List.map_append, List.map_cons] at hnd'
        rw [List.nodup_append] at hnd'
        obtain ⟨_, h2, h3⟩ := hnd'
        rcases hq with hq | hq
        · exact h3 _ (List.mem_map.2 ⟨q, hq, rfl⟩) _ List.mem_cons_self rfl
        · exact (List.nodup_cons.1 h2).1 (List.mem_map.2 ⟨q, hq, rfl⟩)
      refine ih (listed.setIfInBounds p.1 true) j' a' w' ?_ (by simp [hs]) (closed_set hs (hop p hp) hc hall) (fun i hi => ?_) (fun i hi => getD_set_true (hbase i hi)) ?_ fuel (by have := cnt_set (ops := ops) hs hpi hun; omega)
      · have : L.countP (fun q => !(listed.setIfInBounds p.1 true).getD q.1 false) < L.countP (fun q => !listed.getD q.1 false) := by
          rw [hsplit, List.countP_append, List.countP_append, List.countP_cons, List.countP_cons]
          have c1 : ∀ l : List (Nat × Rec), (∀ q ∈ l, q.1 ≠ p.1) → l.countP (fun q => !(listed.setIfInBounds p.1 true).getD q.1 false) = l.countP (fun q => !listed.getD q.1 false) := by
            intro l hl'
            apply List.countP_congr
            intro q hq
            simp only [hget, hl' q hq, if_false]
          rw [c1 _ (fun q hq => notin q (.inl hq)), c1 _ (fun q hq => notin q (.inr hq))]
          simp [hget, hun]
        omega
      · rw [hget] at hi
        split at hi
        · rename_i e; subst e; exact .inr ⟨p, hp, rfl⟩
        · exact hsub i hi
      · have : partI (fun k => (listed.setIfInBounds p.1 true).getD k false) L F0 = (partI (fun i => listed.getD i false) L F0).rec' p.2 := by
          rw [hF]
          conv => lhs; rw [hsplit]
          rw [partI_append]
          simp only [partI, hget, if_true]
          rw [partI_congr (sel' := fun i => listed.getD i false) (L.take m) F0 (fun q hq => by
            simp [notin q (.inl hq)])]
          rw [partI_congr (sel' := fun i => listed.getD i false) (L.drop (m + 1)) _ (fun q hq => by
            simp [notin q (.inr hq)])]
          exact partI_rec _ _ hpost
        rw [this]
        exact h'
    by_cases hfl : Float P ops p0.1 p0.2.o
    · -- it may be taken now
      obtain ⟨hrec, hgo⟩ := step p0 hp0 hu0 (fun e he hb => by
        obtain ⟨_, o, ho, hall⟩ := mem_ready.1 ready0
        rw [hop p0 hp0] at ho; cases ho
        exact hall e he hb)
      have h1 := rec_step (Q := fun _ _ _ => False) h hrec (hop p0 hp0) (K := fun a' w' => ∃ j', Rel ρ n X W0 fb ((partI (fun i => listed.getD i false) L F0).rec' p0.2) j' a' w') (fun j' a' w' h' => ⟨j', h'⟩)
      have hwant : Region.wanted p0.2.o (yielded ops a.tmps) = true := by simp [Region.wanted, hfl.guard]
      unfold wpOp at h1
      simp only [hop p0 hp0, hwant, if_true] at h1
      rcases h1 with h1 | ⟨_, a', w', h1⟩
      · obtain ⟨v, hv⟩ := hfl.still a w _ h1
        have h2 := h1
        unfold Oper.wp at h2
        rw [hv w] at h2
        obtain ⟨j', h3⟩ : ∃ j', Rel ρ n X W0 fb ((partI (fun i => listed.getD i false) L F0).rec' p0.2) j' (a.put p0.2.o.dst v) w := h2
        refine wpAny_first (hop p0 hp0) (Region.noSelect_spec hfl.sel) (fun c a w h => absurd h (hQ c _ w)) fuel listed a w (fun k ok hk hne hun hno => ?_) ready0 (.inl ⟨hwant, hv⟩) (hgo j' _ w h3)
        refine Region.free_spec (hop p0 hp0) hfl.free k ok hk hne ?_ hno
        have hkl : k < ops.size := (Array.getElem?_eq_some_iff.1 hk).1
        rw [Array.getD_eq_getD_getElem?, Array.getElem?_replicate, if_pos hkl]
        rfl
      · exact h1.elim
    · refine ⟨fun hnil => (by rw [hnil] at ready0; cases ready0), fun i hi => ?_⟩
      obtain ⟨hun, o, ho, hall⟩ := mem_ready.1 hi
      have hi' : i < ops.size := (Array.getElem?_eq_some_iff.1 ho).1
      rw [gd i hi'] at hun
      have hin : ∃ p ∈ L, p.1 = i := by
        by_cases hh : ∃ p ∈ L, p.1 = i
        · exact hh
        · exfalso
          have hb : base i = false := by
            cases hb : base i with
            | false => rfl
            | true => rw [hbase i hb] at hun; cases hun
          rcases hout i hi' hb (fun p hp e => hh ⟨p, hp, e⟩) p0 hp0 with h1 | h1
          · exact hfl h1
          · have := h1 (fun i => listed.getD i false) hc (fun o' ho2 e he hb2 => by
              rw [ho] at ho2; cases ho2
              exact hall e he hb2)
            (try dsimp only at this)
            rw [hu0] at this
            cases this
      obtain ⟨p, hp, rfl⟩ := hin
      rw [hop p hp] at ho; cases ho
      obtain ⟨hrec, hgo⟩ := step p hp hun hall
      exact rec_step h hrec (hop p hp) (fun j' a' w' h' => hgo j' a' w' h')
end
end Go.Proofs.Ytgfghplnankgnaa


/- The symbolic run of a region's operations, and that it is sound. Nothing of the program is in here. -/
set_option linter.unusedVariables false
set_option linter.unusedSimpArgs false
namespace Go.Proofs.Ytgfghplnankgnaa
open Go.RowKit

def evS (n : Nat) (tmps : List V) : Operand → Option V
  | .tmp t => if Nat.blt t n then (match tmps[t]? with
    | some .top => none
    | x => x) else none
  | .const v => ofValue v
  | .global _ => none
  | .func f => some (.one (.fn f))
def ldS (heap : List Ob) (b o : Nat) : Option C := match heap[b]? with
  | some (.box cs _) => cs[o]?
  | _ => none
def rwS (heap : List Ob) (id : Nat) : Option RowOb := match heap[id]? with
  | some (.row r) => some r
  | _ => none
def Cx.fbs (cx : Cx) (b : Nat) : Option (List C) := cx.fb[b]?
def rowS (heap : List Ob) (b o n : Nat) : Option (List C) := match heap[b]? with
  | some (.box cs _) => seg cs o n
  | _ => none
theorem rowS_ok {heap : List Ob} (b o n : Nat) (ds : List C) (h : rowS heap b o n = some ds) : rowOf (ldS heap) b o n = some ds := by
  unfold rowS at h
  split at h
  · rename_i cs ty hb
    have := seg_ok (ld := ldS heap) (b := b) (k := 0) h (fun i => by simp [ldS, hb])
    rwa [Nat.zero_add] at this
  · cases h
def St.vw (cx : Cx) (s : St) : Vw := ⟨evS s.n s.tmps, ldS s.heap, rwS s.heap, cx.fbs, s.heap.length, rowS s.heap, rowS_ok⟩
def boxH (heap : List Ob) (b : Nat) : Option (List C × Nat) := match heap[b]? with
  | some (.box cs ty) => some (cs, ty)
  | _ => none
def rowH (heap : List Ob) (b : Nat) : Option (Option RowOb) := match heap[b]? with
  | some (.row r) => some (some r)
  | some .gone => some none
  | _ => none
def fsOf (tm : Nat → V) (heap : List Ob) : FS := ⟨tm, boxH heap, rowH heap⟩
def St.fs (s : St) : FS := fsOf (fun t => (s.tmps[t]?).getD (.one .undef)) s.heap

def wrsS : List (Nat × Nat × C) → List Ob → Option (List Ob)
  | [], h => some h
  | (b, o, c) :: l, h => match h[b]? with
    | some (.box cs ty) => if o < cs.length then wrsS l (h.set b (.box (cs.set o c) ty)) else none
    | _ => none
/-- Writes of one box's cells, one behind another: at once. -/
def runW (b : Nat) : Nat → List (Nat × Nat × C) → Option (List C)
  | _, [] => some []
  | o, (b', o', c) :: l => if Nat.beq b b' && Nat.beq o o' then (runW b (o + 1) l).map (c :: ·) else none
def putRun : List C → Nat → List C → Option (List C)
  | cs, 0, [] => some cs
  | _ :: cs, 0, v :: vs => (putRun cs 0 vs).map (v :: ·)
  | c :: cs, o + 1, vs => (putRun cs o vs).map (c :: ·)
  | [], _, _ => none
def wrsF (l : List (Nat × Nat × C)) (h : List Ob) : Option (List Ob) :=
  match l with
  | (b, o, c) :: l' => (match runW b o ((b, o, c) :: l') with
    | some vs => (match h[b]? with
      | some (.box cs ty) => (putRun cs o vs).map fun ds => h.set b (.box ds ty)
      | _ => none)
    | none => wrsS ((b, o, c) :: l') h)
  | [] => some h
theorem runW_eq : ∀ {l : List (Nat × Nat × C)} {b o : Nat} {vs : List C}, runW b o l = some vs → l = rowWr b o vs
  | [], b, o, vs, h => by cases h; rfl
  | (b', o', c) :: l, b, o, vs, h => by
    simp only [runW] at h
    split at h
    · rename_i hb
      simp only [Bool.and_eq_true] at hb
      rw [Option.map_eq_some_iff] at h
      obtain ⟨us, h1, rfl⟩ := h
      rw [runW_eq h1, ← Nat.eq_of_beq_eq_true hb.1, ← Nat.eq_of_beq_eq_true hb.2]
      rfl
    · cases h
theorem putRun_eq : ∀ {cs : List C} {o : Nat} {vs ds : List C}, putRun cs o vs = some ds → o + vs.length ≤ cs.length ∧ ∀ n, (n < o ∨ o + vs.length ≤ n → ds[n]? = cs[n]?) ∧ (o ≤ n → n < o + vs.length → ds[n]? = vs[n - o]?)
  | cs, 0, [], ds, h => by
    have : cs = ds := by cases cs <;> simpa [putRun] using h
    subst this
    exact ⟨by simp, fun n => ⟨fun _ => rfl, fun _ h => by simp at h⟩⟩
  | c :: cs, 0, v :: vs, ds, h => by
    simp only [putRun, Option.map_eq_some_iff] at h
    obtain ⟨us, h1, rfl⟩ := h
    obtain ⟨h2, h3⟩ := putRun_eq h1
    refine ⟨by simp only [List.length_cons]; omega, fun n => ⟨fun hn => ?_, fun _ hn => ?_⟩⟩
    · cases n with
      | zero => simp only [List.length_cons] at hn; omega
      | succ n => simp only [List.getElem?_cons_succ]; exact (h3 n).1 (by simp only [List.length_cons] at hn; omega)
    · cases n with
      | zero => rfl
      | succ n =>
        have := (h3 n).2 (Nat.zero_le _) (by simp only [List.length_cons] at hn; omega)
        simpa using this
  | c :: cs, o + 1, vs, ds, h => by
    simp only [putRun, Option.map_eq_some_iff] at h
    obtain ⟨us, h1, rfl⟩ := h
    obtain ⟨h2, h3⟩ := putRun_eq h1
    refine ⟨by simp only [List.length_cons]; omega, fun n => ⟨fun hn => ?_, fun h4 hn => ?_⟩⟩
    · cases n with
      | zero => rfl
      | succ n => simp only [List.getElem?_cons_succ]; exact (h3 n).1 (by omega)
    · cases n with
      | zero => omega
      | succ n =>
        simp only [List.getElem?_cons_succ, Nat.add_sub_add_right]
        exact (h3 n).2 (by omega) (by omega)
  | [], 0, v :: vs, ds, h => by cases h
  | [], o + 1, vs, ds, h => by cases h
theorem wrsS_run : ∀ {vs : List C} {b o : Nat} {h : List Ob} {cs : List C} {ty : Nat}, h[b]? = some (.box cs ty) → o + vs.length ≤ cs.length → wrsS (rowWr b o vs) h = some (h.set b (.box (setRow cs o vs) ty))
  | [], b, o, h, cs, ty, hb, hl => by
    simp only [rowWr, wrsS, setRow]
    congr 1
    apply List.ext_getElem?
    intro n
    rw [List.getElem?_set]
    split
    · rename_i hn
      subst hn
      rw [if_pos (List.getElem?_eq_some_iff.1 hb).1]; exact hb
    · rfl
  | v :: vs, b, o, h, cs, ty, hb, hl => by
    have hlt : b < h.length := (List.getElem?_eq_some_iff.1 hb).1
    simp only [List.length_cons] at hl
    simp only [rowWr, wrsS, hb]
    rw [if_pos (by omega), wrsS_run (cs := cs.set o v) (ty := ty) (by rw [List.getElem?_set]; simp [hlt]) (by simp; omega)]
    simp only [setRow, List.set_set]
theorem setRow_get : ∀ (vs cs : List C) (o n : Nat), o + vs.length ≤ cs.length → (setRow cs o vs)[n]? = if o ≤ n ∧ n < o + vs.length then vs[n - o]? else cs[n]?
  | [], cs, o, n, _ => by simp only [setRow, List.length_nil]; rw [if_neg (by omega)]
  | v :: vs, cs, o, n, hl => by
    simp only [List.length_cons] at hl ⊢
    rw [setRow, setRow_get vs (cs.set o v) (o + 1) n (by simp; omega)]
    by_cases h1 : o + 1 ≤ n ∧ n < o + 1 + vs.length
    · rw [if_pos h1, if_pos (by omega), show n - o = (n - (o + 1)) + 1 by omega]; rfl
    · rw [if_neg h1, List.getElem?_set]
      by_cases h2 : o = n
      · subst h2
        rw [if_pos rfl, if_pos (by omega), if_pos (by omega), Nat.sub_self]; rfl
      · rw [if_neg h2, if_neg (by omega)]
theorem wrsF_eq {l : List (Nat × Nat × C)} {h h' : List Ob} (e : wrsF l h = some h') : wrsS l h = some h' := by
  unfold wrsF at e
  split at e
  · split at e
    · rename_i vs hrun
      split at e
      · rename_i cs ty hb
        rw [Option.map_eq_some_iff] at e
        obtain ⟨ds, h1, rfl⟩ := e
        obtain ⟨h2, h3⟩ := putRun_eq h1
        rw [runW_eq hrun, wrsS_run hb h2]
        congr 2
        congr 1
        apply List.ext_getElem?
        intro n
        rw [setRow_get _ _ _ _ h2]
        split
        · rename_i hn; exact ((h3 n).2 hn.1 hn.2).symm
        · rename_i hn; exact ((h3 n).1 (by omega)).symm
      · cases e
    · exact e
  · exact e
def heapApp (heap : List Ob) (eff : Eff) : Option (List Ob) :=
  match eff.al, eff.re with
  | some x, .none => (match eff.wr with | [] => some (heap ++ [.box x.1 x.2]) | _ => none)
  | none, .none => wrsF eff.wr heap
  | none, .set id r => (match eff.wr, heap[id]? with
    | [], some (.row q) => if q.own && r.own then some (heap.set id (.row r)) else none
    | _, _ => none)
  | none, .mk rs => (match eff.wr with | [] => some (heap ++ rs.map .row) | _ => none)
  | none, .app old r => (match eff.wr, heap[old]? with
    | [], some (.row q) => if q.own && r.own then some (heap.set old .gone ++ [.row r]) else none
    | _, _ => none)
  | none, .view old q r => (match eff.wr, heap[old]? with
    | [], some (.row _) => if !q.own && !r.own then some (heap.set old (.row q) ++ [.row r]) else none
    | _, _ => none)
  | _, _ => none
def St.app (s : St) (dst : Option Nat) (eff : Eff) : Option St :=
  match heapApp s.heap eff with
  | none => none
  | some h => match dst with
    | none => some ⟨s.tmps, h, s.n⟩
    | some d => if Nat.blt d s.n then some ⟨s.tmps.set d eff.val, h, s.n⟩ else none

theorem evS_evF (s : St) (hn : s.n ≤ s.tmps.length) (x : Operand) : evF s.fs s.n x = evS s.n s.tmps x := by
  cases x with
  | tmp t =>
    simp only [evF, evS, St.fs, fsOf]
    by_cases h : t < s.n
    · have h2 : t < s.tmps.length := Nat.lt_of_lt_of_le h hn
      rw [if_pos h, if_pos (by simpa [Nat.blt_eq] using h), List.getElem?_eq_getElem h2]
      simp only [Option.getD_some]
      cases s.tmps[t] <;> rfl
    · rw [if_neg h, if_neg (by simpa [Nat.blt_eq] using h)]
  | _ => rfl
theorem ldS_ldF (s : St) (b o : Nat) : ldF s.fs b o = ldS s.heap b o := by
  simp only [ldF, St.fs, fsOf, boxH, ldS]
  split <;> rfl
theorem rwS_rwF (s : St) (id : Nat) : rwF s.fs id = rwS s.heap id := by
  simp only [rwF, St.fs, fsOf, rowH, rwS]
  split <;> simp_all

theorem wrsS_ok : ∀ (l : List (Nat × Nat × C)) (h h' : List Ob) (tm : Nat → V), wrsS l h = some h' → fsOf tm h' = FS.wrs (fsOf tm h) l ∧ ∀ p ∈ l, ∃ c, ldF (fsOf tm h) p.1 p.2.1 = some c
  | [], h, h', tm, e => by cases e; exact ⟨rfl, fun p hp => by cases hp⟩
  | (b, o, c) :: l, h, h', tm, e => by
    simp only [wrsS] at e
    split at e
    · rename_i cs ty hb
      split at e
      · rename_i ho
        obtain ⟨h1, h2⟩ := wrsS_ok l _ h' tm e
        have hblt : b < h.length := (List.getElem?_eq_some_iff.1 hb).1
        have hw : fsOf tm (h.set b (.box (cs.set o c) ty)) = FS.wr (fsOf tm h) (b, o, c) := by
          refine FS.ext' (fun _ => rfl) (fun b' => ?_) (fun b' => ?_)
          · simp only [FS.wr, fsOf, boxH, List.getElem?_set]
            by_cases hbb : b' = b
            · subst hbb
              simp only [if_true, hblt, hb, Option.map_some]
            · simp [hbb, show ¬ b = b' from fun e => hbb e.symm]
          · simp only [FS.wr, fsOf, rowH, List.getElem?_set]
            by_cases hbb : b = b'
            · subst hbb
              simp only [if_true, hblt, hb]
            · simp [hbb]
        refine ⟨by rw [h1, hw]; rfl, fun p hp => ?_⟩
        rcases List.mem_cons.1 hp with rfl | hp
        · exact ⟨cs[o], by simp [ldF, fsOf, boxH, hb, List.getElem?_eq_getElem ho]⟩
        · obtain ⟨c', hc'⟩ := h2 p hp
          rw [hw, ldF_wr] at hc'
          split at hc'
          · rw [Option.map_eq_some_iff] at hc'
            obtain ⟨x, hx, _⟩ := hc'
            exact ⟨x, hx⟩
          · exact ⟨c', hc'⟩
      · cases e
    · cases e

theorem row_at {heap : List Ob} {b : Nat} {r : RowOb} (h : heap[b]? = some (.row r)) : rowH heap b = some (some r) ∧ boxH heap b = none ∧ b < heap.length :=
  ⟨by simp [rowH, h], by simp [boxH, h], (List.getElem?_eq_some_iff.1 h).1⟩
theorem none_at {heap : List Ob} {b : Nat} (h : heap.length ≤ b) : rowH heap b = none ∧ boxH heap b = none :=
  ⟨by simp [rowH, List.getElem?_eq_none h], by simp [boxH, List.getElem?_eq_none h]⟩

theorem heapApp_ok {heap heap' : List Ob} {eff : Eff} (h : heapApp heap eff = some heap') (tm : Nat → V) :
    fsOf tm heap' = ((match eff.al with | some x => (fsOf tm heap).new heap.length x | none => (fsOf tm heap).wrs eff.wr).rws (eff.re.rs heap.length)) ∧ (∀ p ∈ eff.wr, ∃ c, ldF (fsOf tm heap) p.1 p.2.1 = some c) ∧ ReOk (fsOf tm heap) heap.length eff.re ∧ ((eff.al = none ∧ eff.wr = []) ∨ eff.re = .none) := by
  unfold heapApp at h
  split at h
  · rename_i x hal hre
    split at h
    · rename_i hwr
      cases h
      rw [hal, hre, hwr]
      refine ⟨?_, fun p hp => (by cases hp), trivial, .inr rfl⟩
      refine FS.ext' (fun _ => rfl) (fun b => ?_) (fun b => ?_)
      · simp only [FS.new, FS.rws, RE.rs, List.foldl_nil, fsOf, boxH]
        by_cases hb : b = heap.length
        · subst hb; simp
        · rcases Nat.lt_or_ge b heap.length with h1 | h1
          · rw [List.getElem?_append_left h1]; simp [hb]
          · rw [List.getElem?_eq_none (by simp; omega), List.getElem?_eq_none h1]; simp [hb]
      · simp only [FS.new, FS.rws, RE.rs, List.foldl_nil, fsOf, rowH]
        by_cases hb : b = heap.length
        · subst hb; simp
        · rcases Nat.lt_or_ge b heap.length with h1 | h1
          · rw [List.getElem?_append_left h1]
          · rw [List.getElem?_eq_none (by simp; omega), List.getElem?_eq_none h1]
    · cases h
  · rename_i hal hre
    rw [hal, hre]
    obtain ⟨h1, h2⟩ := wrsS_ok eff.wr heap heap' tm (wrsF_eq h)
    exact ⟨h1, h2, trivial, .inr rfl⟩
  · rename_i id r hal hre
    split at h
    · rename_i q hwr hq
      split at h
      · rename_i ho
        rw [Bool.and_eq_true] at ho
        cases h
        rw [hal, hre, hwr]
        obtain ⟨r1, r2, r3⟩ := row_at hq
        refine ⟨?_, fun p hp => (by cases hp), ⟨⟨q, r1, ho.1⟩, ho.2⟩, .inl ⟨rfl, rfl⟩⟩
        refine FS.ext' (fun _ => rfl) (fun b => ?_) (fun b => ?_)
        · simp only [FS.wrs, FS.rws, RE.rs, List.foldl_nil, List.foldl_cons, FS.rw1, fsOf, boxH, List.getElem?_set]
          by_cases hb : id = b
          · subst hb; simp only [if_true, r3, hq]
          · simp [hb]
        · simp only [FS.wrs, FS.rws, RE.rs, List.foldl_nil, List.foldl_cons, FS.rw1, fsOf, rowH, List.getElem?_set]
          by_cases hb : id = b
          · subst hb; simp [r3]
          · simp [hb, show ¬ b = id from fun e => hb e.symm]
      · cases h
    · cases h
  · rename_i rs hal hre
    split at h
    · rename_i hwr
      cases h
      rw [hal, hre, hwr]
      refine ⟨?_, fun p hp => (by cases hp), fun i hi => (none_at (by omega)).1, .inl ⟨rfl, rfl⟩⟩
      refine FS.ext' (fun t => ?_) (fun b => ?_) (fun b => ?_)
      · rw [(rws_box _ _).2]; rfl
      · rw [(rws_box _ _).1]
        simp only [FS.wrs, List.foldl_nil, fsOf, boxH]
        rcases Nat.lt_or_ge b heap.length with h1 | h1
        · rw [List.getElem?_append_left h1]
        · rw [List.getElem?_append_right h1, List.getElem?_map, List.getElem?_eq_none h1]
          cases rs[b - heap.length]? <;> rfl
      · show _ = ((fsOf tm heap).rws (mkRs heap.length rs)).row b
        rw [mkRs_row]
        simp only [fsOf, rowH]
        rcases Nat.lt_or_ge b heap.length with h1 | h1
        · rw [List.getElem?_append_left h1, if_neg (by omega)]
        · rw [List.getElem?_append_right h1, List.getElem?_map]
          by_cases h2 : b < heap.length + rs.length
          · rw [if_pos ⟨h1, h2⟩, List.getElem?_eq_getElem (by omega)]
            rfl
          · rw [if_neg (by omega), List.getElem?_eq_none (by omega), List.getElem?_eq_none h1]
            rfl
    · cases h
  · rename_i old r hal hre
    split at h
    · rename_i q hwr hq
      split at h
      · rename_i ho
        rw [Bool.and_eq_true] at ho
        cases h
        rw [hal, hre, hwr]
        obtain ⟨r1, r2, r3⟩ := row_at hq
        refine ⟨?_, fun p hp => (by cases hp), ⟨⟨q, r1, ho.1⟩, ho.2, (none_at (Nat.le_refl _)).1, by omega⟩, .inl ⟨rfl, rfl⟩⟩
        refine FS.ext' (fun _ => rfl) (fun b => ?_) (fun b => ?_)
        · simp only [FS.wrs, FS.rws, RE.rs, List.foldl_nil, List.foldl_cons, FS.rw1, fsOf, boxH]
          rcases Nat.lt_or_ge b heap.length with h1 | h1
          · rw [List.getElem?_append_left (by simpa using h1), List.getElem?_set]
            by_cases hb : old = b
            · subst hb; simp only [if_true, r3, hq]
            · simp [hb]
          · rw [List.getElem?_append_right (by simpa using h1), List.getElem?_eq_none h1]
            simp only [List.length_set]
            cases h2 : b - heap.length <;> simp
        · simp only [FS.wrs, FS.rws, RE.rs, List.foldl_nil, List.foldl_cons, FS.rw1, fsOf, rowH]
          rcases Nat.lt_or_ge b heap.length with h1 | h1
          · rw [List.getElem?_append_left (by simpa using h1), List.getElem?_set, if_neg (show ¬ b = heap.length by omega)]
            by_cases hb : old = b
            · subst hb; simp [r3]
            · simp [hb, show ¬ b = old from fun e => hb e.symm]
          · rw [List.getElem?_append_right (by simpa using h1), List.getElem?_eq_none h1]
            simp only [List.length_set]
            by_cases h2 : b = heap.length
            · subst h2; simp
            · rw [if_neg h2, if_neg (show ¬ b = old by omega)]
              rw [List.getElem?_eq_none (by simp; omega)]
      · cases h
    · cases h
  · rename_i old q r hal hre
    split at h
    · rename_i q0 hwr hq
      split at h
      · rename_i ho
        rw [Bool.and_eq_true] at ho
        cases h
        rw [hal, hre, hwr]
        obtain ⟨r1, r2, r3⟩ := row_at hq
        refine ⟨?_, fun p hp => (by cases hp), ⟨⟨q0, r1⟩, by simpa using ho.1, by simpa using ho.2, (none_at (Nat.le_refl _)).1, by omega⟩, .inl ⟨rfl, rfl⟩⟩
        refine FS.ext' (fun _ => rfl) (fun b => ?_) (fun b => ?_)
        · simp only [FS.wrs, FS.rws, RE.rs, List.foldl_nil, List.foldl_cons, FS.rw1, fsOf, boxH]
          rcases Nat.lt_or_ge b heap.length with h1 | h1
          · rw [List.getElem?_append_left (by simpa using h1), List.getElem?_set]
            by_cases hb : old = b
            · subst hb; simp only [if_true, r3, hq]
            · simp [hb]
          · rw [List.getElem?_append_right (by simpa using h1), List.getElem?_eq_none h1]
            simp only [List.length_set]
            cases h2 : b - heap.length <;> simp
        · simp only [FS.wrs, FS.rws, RE.rs, List.foldl_nil, List.foldl_cons, FS.rw1, fsOf, rowH]
          rcases Nat.lt_or_ge b heap.length with h1 | h1
          · rw [List.getElem?_append_left (by simpa using h1), List.getElem?_set, if_neg (show ¬ b = heap.length by omega)]
            by_cases hb : old = b
            · subst hb; simp [r3]
            · simp [hb, show ¬ b = old from fun e => hb e.symm]
          · rw [List.getElem?_append_right (by simpa using h1), List.getElem?_eq_none h1]
            simp only [List.length_set]
            by_cases h2 : b = heap.length
            · subst h2; simp
            · rw [if_neg h2, if_neg (show ¬ b = old by omega)]
              rw [List.getElem?_eq_none (by simp; omega)]
      · cases h
    · cases h
  · cases h

theorem St.app_ok {s s' : St} (hn : s.n ≤ s.tmps.length) {dst : Option Nat} {eff : Eff} (h : s.app dst eff = some s') : s'.fs = s.fs.app dst s.heap.length eff ∧ (s'.tmps.length = s.tmps.length ∧ s'.n = s.n) ∧ (∀ d, dst = some d → d < s.n) ∧ (∀ p ∈ eff.wr, ∃ c, ldF s.fs p.1 p.2.1 = some c) ∧ ReOk s.fs s.heap.length eff.re ∧ ((eff.al = none ∧ eff.wr = []) ∨ eff.re = .none) := by
  unfold St.app at h
  split at h
  · cases h
  · rename_i hp heq
    obtain ⟨h1, h2, h3, h4⟩ := heapApp_ok heq (fun t => (s.tmps[t]?).getD (.one .undef))
    have key : ∀ dst, (fsOf (fun t => (s.tmps[t]?).getD (.one .undef)) hp).put dst eff.val = s.fs.app dst s.heap.length eff := fun dst => by
      unfold FS.app
      rw [h1]
      rfl
    split at h
    · cases h
      refine ⟨?_, ⟨rfl, rfl⟩, fun d hd => (by cases hd), h2, h3, h4⟩
      rw [← key]
      refine FS.ext' (fun t => ?_) (fun _ => rfl) (fun _ => rfl)
      simp [FS.put, St.fs, fsOf]
    · rename_i d
      split at h
      · rename_i hd
        have hd : d < s.n := by simpa [Nat.blt_eq] using hd
        cases h
        refine ⟨?_, ⟨by simp, rfl⟩, fun d' hd' => (by cases hd'; exact hd), h2, h3, h4⟩
        rw [← key]
        refine FS.ext' (fun t => ?_) (fun _ => rfl) (fun _ => rfl)
        simp only [FS.put, St.fs, fsOf, List.getElem?_set]
        by_cases ht : d = t
        · subst ht; simp [show d < s.tmps.length by omega]
        · simp [ht]
      · cases h

/-! ### The operations of a region -/
def opsK (cx : Cx) (ops : Array Oper) : List Oper → St → Kw → (List Rec → St → Kw → Tr) → Tr
  | [], s, kw, k => k [] s kw
  | o :: l, s, kw, k =>
    match o.guard with
    | none => opK cx (s.vw cx) o.op kw fun eff kw =>
      match s.app o.dst eff with
      | some s' => opsK cx ops l s' kw fun rs s'' kw => k (⟨o, true, s.heap.length, eff⟩ :: rs) s'' kw
      | none => .stuck 60
    | some (g, b) =>
      match ((ops[g]?).bind (·.dst)).bind (fun t => if Nat.blt t s.n then s.tmps[t]? else none) with
      | some (.one (.bool e)) => decK e (fun x kw =>
        if x == b then opK cx (s.vw cx) o.op kw fun eff kw =>
          match s.app o.dst eff with
          | some s' => opsK cx ops l s' kw fun rs s'' kw => k (⟨o, true, s.heap.length, eff⟩ :: rs) s'' kw
          | none => .stuck 60
        else match s.app o.dst { val := .one .undef } with
          | some s' => opsK cx ops l s' kw fun rs s'' kw => k (⟨o, false, s.heap.length, { val := .one .undef }⟩ :: rs) s'' kw
          | none => .stuck 60) kw
      | some (.one .undef) => match s.app o.dst { val := .one .undef } with
          | some s' => opsK cx ops l s' kw fun rs s'' kw => k (⟨o, false, s.heap.length, { val := .one .undef }⟩ :: rs) s'' kw
          | none => .stuck 60
      | _ => .stuck 61

section
variable {P : Program} {sp : Spec} {ρ : Env} {G : Env → E → Prop} {I : Nat → List Dt → Prop} {cx : Cx} {base : Nat}

theorem opsK_ok (hT : ∀ t i, (t, i) ∈ cx.ty → TIok P t i) (hS : ∀ s ∈ cx.sm, SmOk P sp s) (hkeys : ∀ s ∈ cx.sm, ∀ s' ∈ cx.sm, s.key = s'.key → s = s') {ops : Array Oper} :
    ∀ (l : List Oper) (s : St) (kw : Kw) (k : List Rec → St → Kw → Tr), (opsK cx ops l s kw k).holds sp G ρ I → Good sp cx.sm ρ kw → s.n ≤ s.tmps.length →
      ∃ rs s' kw', (k rs s' kw').holds sp G ρ I ∧ Good sp cx.sm ρ kw' ∧ KwGe kw' kw ∧ rs.map (·.o) = l ∧ s'.fs = full rs s.fs ∧ (s'.tmps.length = s.tmps.length ∧ s'.n = s.n) ∧ ∀ (m : Nat) r, rs[m]? = some r → RecOk P ρ s.n base cx.fbs ops r (full (rs.take m) s.fs)
  | [], s, kw, k, h, hg, hn => ⟨[], s, kw, h, hg, .refl _, rfl, rfl, ⟨rfl, rfl⟩, fun m r hm => by simp at hm⟩
  | o :: l, s, kw, k, h, hg, hn => by
    -- what is common to the ways
    have next : ∀ (want : Bool) (eff : Eff) (kw0 kw : Kw), KwGe kw kw0 → ((match s.app o.dst eff with | some s' => opsK cx ops l s' kw fun rs s'' kw => k (⟨o, want, s.heap.length, eff⟩ :: rs) s'' kw | none => .stuck 60 : Tr)).holds sp G ρ I → Good sp cx.sm ρ kw →
        (∀ s', s.app o.dst eff = some s' → RecOk P ρ s.n base cx.fbs ops ⟨o, want, s.heap.length, eff⟩ s.fs) →
        ∃ rs s' kw', (k rs s' kw').holds sp G ρ I ∧ Good sp cx.sm ρ kw' ∧ KwGe kw' kw0 ∧ rs.map (·.o) = o :: l ∧ s'.fs = full rs s.fs ∧ (s'.tmps.length = s.tmps.length ∧ s'.n = s.n) ∧ ∀ (m : Nat) r, rs[m]? = some r → RecOk P ρ s.n base cx.fbs ops r (full (rs.take m) s.fs) := by
      intro want eff kw0 kw hlv h hg hrec
      split at h
      · rename_i s1 hs1
        obtain ⟨e1, e2, e3, e4, _, _⟩ := St.app_ok hn hs1
        obtain ⟨rs, s', kw', h1, h2, h0, h3, h4, h5, h6⟩ := opsK_ok hT hS hkeys l s1 kw _ h hg (by rw [e2.1, e2.2]; exact hn)
        refine ⟨⟨o, want, s.heap.length, eff⟩ :: rs, s', kw', h1, h2, h0.trans hlv, by simp [h3], ?_, ⟨by rw [h5.1, e2.1], by rw [h5.2, e2.2]⟩, fun m r hm => ?_⟩
        · rw [h4, e1]; rfl
        · cases m with
          | zero =>
            simp only [List.getElem?_cons_zero, Option.some.injEq] at hm
            subst hm
            exact hrec s1 hs1
          | succ m =>
            have := h6 m r (by simpa using hm)
            rw [e1, e2.2] at this
            exact this
      · exact h.elim
    have ran : ∀ (kw0 kw : Kw), KwGe kw kw0 → (opK cx (s.vw cx) o.op kw fun eff kw =>
          match s.app o.dst eff with
          | some s' => opsK cx ops l s' kw fun rs s'' kw => k (⟨o, true, s.heap.length, eff⟩ :: rs) s'' kw
          | none => .stuck 60).holds sp G ρ I → Good sp cx.sm ρ kw →
        (match o.guard with
          | none => True
          | some (g, b) => ∃ t, (ops[g]?).bind (·.dst) = some t ∧ t < s.n ∧ ∃ e : E, s.fs.tmp t = .one (.bool e) ∧ true = (e.B ρ == b)) →
        ∃ rs s' kw', (k rs s' kw').holds sp G ρ I ∧ Good sp cx.sm ρ kw' ∧ KwGe kw' kw0 ∧ rs.map (·.o) = o :: l ∧ s'.fs = full rs s.fs ∧ (s'.tmps.length = s.tmps.length ∧ s'.n = s.n) ∧ ∀ (m : Nat) r, rs[m]? = some r → RecOk P ρ s.n base cx.fbs ops r (full (rs.take m) s.fs) := by
      intro kw0 kw hlv h hg hgd
      obtain ⟨eff, kw1, h1, g1, l1, hok⟩ := opK_ok (P := P) (o := o) (base := base) hT hS hkeys h hg
      refine next true eff kw0 kw1 (l1.trans hlv) h1 g1 (fun s1 hs1 => ?_)
      obtain ⟨e1, e2, e3, e4, e5, e6⟩ := St.app_ok hn hs1
      refine ⟨fun _ => ⟨s.vw cx, rfl, hok, ⟨fun x hx v hv => by rw [evS_evF s hn]; exact hv, fun p hp c hc => by rw [ldS_ldF]; exact hc, e4, fun _ => (none_at (Nat.le_refl _)).2, fun id hid r hr => by rw [rwS_rwF]; exact hr, e5, rfl, e6⟩⟩, fun h => (by cases h), ?_, e3⟩
      cases hgg : o.guard with
      | none => simp [hgg]
      | some p =>
        obtain ⟨g, b⟩ := p
        simp only [hgg]
        rw [hgg] at hgd
        obtain ⟨t, h2, h3, e, h4, h5⟩ := hgd
        exact ⟨t, h2, h3, .inl ⟨e, h4, h5⟩⟩
    have skipped : ∀ (kw0 kw : Kw) (g : Nat) (b : Bool), KwGe kw kw0 → o.guard = some (g, b) → (match s.app o.dst { val := .one .undef } with
          | some s' => opsK cx ops l s' kw fun rs s'' kw => k (⟨o, false, s.heap.length, { val := .one .undef }⟩ :: rs) s'' kw
          | none => .stuck 60 : Tr).holds sp G ρ I → Good sp cx.sm ρ kw →
        (∃ t, (ops[g]?).bind (·.dst) = some t ∧ t < s.n ∧ ((∃ e : E, s.fs.tmp t = .one (.bool e) ∧ false = (e.B ρ == b)) ∨ (s.fs.tmp t = .one .undef ∧ false = false))) →
        ∃ rs s' kw', (k rs s' kw').holds sp G ρ I ∧ Good sp cx.sm ρ kw' ∧ KwGe kw' kw0 ∧ rs.map (·.o) = o :: l ∧ s'.fs = full rs s.fs ∧ (s'.tmps.length = s.tmps.length ∧ s'.n = s.n) ∧ ∀ (m : Nat) r, rs[m]? = some r → RecOk P ρ s.n base cx.fbs ops r (full (rs.take m) s.fs) := by
      intro kw0 kw g b hlv hgg h hg hgd
      refine next false _ kw0 kw hlv h hg (fun s1 hs1 => ?_)
      obtain ⟨e1, e2, e3, e4, _, _⟩ := St.app_ok hn hs1
      refine ⟨fun h => (by cases h), fun _ => rfl, ?_, e3⟩
      simp only [hgg]
      obtain ⟨t, h1, h2, h3⟩ := hgd
      exact ⟨t, h1, h2, h3.imp _root_.id (fun h => ⟨h.1, trivial⟩)⟩
    have tmpAt : ∀ (g t : Nat) v, ((ops[g]?).bind (·.dst)).bind (fun t => if Nat.blt t s.n then s.tmps[t]? else none) = some v → ∃ t, (ops[g]?).bind (·.dst) = some t ∧ t < s.n ∧ s.fs.tmp t = v := by
      intro g _ v h
      rw [Option.bind_eq_some_iff] at h
      obtain ⟨t, h1, h2⟩ := h
      split at h2
      · rename_i ht
        exact ⟨t, h1, by simpa [Nat.blt_eq] using ht, by simp [St.fs, fsOf, h2]⟩
      · cases h2
    unfold opsK at h
    split at h
    · rename_i hgg
      exact ran kw kw (.refl _) h hg (by simp [hgg])
    · rename_i g b hgg
      split at h
      · rename_i e he
        obtain ⟨t, h1, h2, h3⟩ := tmpAt g 0 _ he
        obtain ⟨kw1, h4, g4, _, l4⟩ := decK_ok _ _ _ h hg
        split at h4
        · rename_i hb
          exact ran kw kw1 l4 h4 g4 (by simp only [hgg]; exact ⟨t, h1, h2, e, h3, hb.symm⟩)
        · rename_i hb
          exact skipped kw kw1 g b l4 hgg h4 g4 ⟨t, h1, h2, .inl ⟨e, h3, by simpa using hb⟩⟩
      · rename_i he
        obtain ⟨t, h1, h2, h3⟩ := tmpAt g 0 _ he
        exact skipped kw kw g b (.refl _) hgg h hg ⟨t, h1, h2, .inr ⟨h3, rfl⟩⟩
      · exact h.elim
end
end Go.Proofs.Ytgfghplnankgnaa


/- Loops and joins of a symbolic run: a state of which some numbers are any, and when another state is one of its. Nothing of the program is in here. -/
set_option linter.unusedVariables false
set_option linter.unusedSimpArgs false
namespace Go.Proofs.Ytgfghplnankgnaa
open Go.RowKit

/-! ### Scopes -/
def E.sc (n : Nat) : E → Bool
  | .lit _ | .nil | .tt _ | .lnil => true
  | .var i | .bvar i | .lvar i => Nat.blt i n
  | .bin _ _ a b | .nth a b | .mix a b | .mn a b | .mx a b | .cons a b | .consb a b | .consl a b | .lt a b | .eq a b | .and a b | .beq a b | .lapp a b | .lcat a b | .lrep a b | .ltake a b | .ldrop a b => a.sc n && b.sc n
  | .get a i _ | .getb a i _ => a.sc n && i.sc n
  | .lset a i _ x | .lsetb a i _ x | .lput a i x | .ite a i x => a.sc n && (i.sc n && x.sc n)
  | .conv _ a | .not a | .len a => a.sc n
theorem E.sc_eq {n : Nat} {ρ ρ' : Env} (h : Ag n ρ ρ') : ∀ e : E, e.sc n = true → e.I ρ = e.I ρ' ∧ e.B ρ = e.B ρ' ∧ e.L ρ = e.L ρ' ∧ e.R ρ = e.R ρ' ∧ e.D ρ = e.D ρ' := by
  intro e
  induction e <;> intro hs <;> simp only [E.sc, Bool.and_eq_true] at hs
  case var i => exact ⟨(h i (by simpa [Nat.blt_eq] using hs)).1, rfl, rfl, rfl, rfl⟩
  case bvar i => exact ⟨rfl, (h i (by simpa [Nat.blt_eq] using hs)).2.1, rfl, rfl, rfl⟩
  case lvar i => exact ⟨rfl, rfl, rfl, (h i (by simpa [Nat.blt_eq] using hs)).2.2, rfl⟩
  case lit => exact ⟨rfl, rfl, rfl, rfl, rfl⟩
  case nil => exact ⟨rfl, rfl, rfl, rfl, rfl⟩
  case lnil => exact ⟨rfl, rfl, rfl, rfl, rfl⟩
  case tt => exact ⟨rfl, rfl, rfl, rfl, rfl⟩
  case conv ih => simp [E.I, E.B, E.L, E.R, E.D, ih hs]
  case not ih => simp [E.I, E.B, E.L, E.R, E.D, ih hs]
  case len ih => simp [E.I, E.B, E.L, E.R, E.D, ih hs]
  case lset ih1 ih2 ih3 => simp [E.I, E.B, E.L, E.R, E.D, ih1 hs.1, ih2 hs.2.1, ih3 hs.2.2]
  case ite ih1 ih2 ih3 => simp [E.I, E.B, E.L, E.R, E.D, ih1 hs.1, ih2 hs.2.1, ih3 hs.2.2]
  case lput ih1 ih2 ih3 => simp [E.I, E.B, E.L, E.R, E.D, ih1 hs.1, ih2 hs.2.1, ih3 hs.2.2]
  case lsetb ih1 ih2 ih3 => simp [E.I, E.B, E.L, E.R, E.D, ih1 hs.1, ih2 hs.2.1, ih3 hs.2.2]
  all_goals
    rename_i ih1 ih2
    simp [E.I, E.B, E.L, E.R, E.D, ih1 hs.1, ih2 hs.2]

/-! ### Numbers given -/
def argE : List VK → List E → E
  | .int _ :: ks, e :: es => .cons e (argE ks es)
  | .bool :: ks, e :: es => .consb e (argE ks es)
  | .list _ :: ks, e :: es => .consl e (argE ks es)
  | _, _ => .nil
/-- An environment in which the numbers from v0 on are given by expressions at another one. -/
structure Giv (v0 : Nat) (vks : List VK) (θ : List E) (ρ ρ' : Env) : Prop where
  ag : Ag v0 ρ ρ'
  i : ∀ m k t, vks[m]? = some (.int k) → θ[m]? = some t → ρ'.i (v0 + m) = t.I ρ
  b : ∀ m t, vks[m]? = some .bool → θ[m]? = some t → ρ'.b (v0 + m) = t.B ρ
  l : ∀ m ks t, vks[m]? = some (.list ks) → θ[m]? = some t → ρ'.l (v0 + m) = t.R ρ
theorem b2i_inj {a b : Bool} (h : b2i a = b2i b) : a = b := by cases a <;> cases b <;> first | rfl | cases h
theorem giv_at {ρ ρ' : Env} : ∀ (vks : List VK) (θ : List E) (n : Nat), θ.length = vks.length → varsD ρ' n vks = (argE vks θ).D ρ → ∀ m t, θ[m]? = some t → (∀ k, vks[m]? = some (.int k) → ρ'.i (n + m) = t.I ρ) ∧ (vks[m]? = some .bool → ρ'.b (n + m) = t.B ρ) ∧ (∀ ks, vks[m]? = some (.list ks) → ρ'.l (n + m) = t.R ρ)
  | [], θ, n, hl, h, m, t, ht => ⟨fun k hk => by simp at hk, fun hk => by simp at hk, fun k hk => by simp at hk⟩
  | vk :: vks, [], n, hl, h, m, t, ht => by cases hl
  | vk :: vks, e :: θ, n, hl, h, m, t, ht => by
    have hl' : θ.length = vks.length := by simpa using hl
    have step : ∀ d, varD ρ' n vk = d → (argE (vk :: vks) (e :: θ)).D ρ = d :: (argE vks θ).D ρ → varsD ρ' (n + 1) vks = (argE vks θ).D ρ := by
      intro d _ h2
      have h3 : varD ρ' n vk :: varsD ρ' (n + 1) vks = (argE (vk :: vks) (e :: θ)).D ρ := h
      rw [h2] at h3
      exact (List.cons.inj h3).2
    cases m with
    | zero =>
      simp only [List.getElem?_cons_zero, Option.some.injEq, Nat.add_zero] at ht ⊢
      subst ht
      have h0 : varD ρ' n vk :: varsD ρ' (n + 1) vks = (argE (vk :: vks) (e :: θ)).D ρ := h
      refine ⟨fun k hk => ?_, fun hk => ?_, fun ks hk => ?_⟩
      · subst hk
        simp only [argE, E.D, varD, List.cons.injEq, Dt.z.injEq] at h0
        exact h0.1
      · subst hk
        simp only [argE, E.D, varD, List.cons.injEq, Dt.z.injEq] at h0
        exact b2i_inj h0.1
      · subst hk
        simp only [argE, E.D, varD, List.cons.injEq, Dt.l.injEq] at h0
        exact h0.1
    | succ m =>
      have h1 : varsD ρ' (n + 1) vks = (argE vks θ).D ρ := by
        have h0 : varD ρ' n vk :: varsD ρ' (n + 1) vks = (argE (vk :: vks) (e :: θ)).D ρ := h
        cases vk <;> simp only [argE, E.D, List.cons.injEq] at h0 <;> exact h0.2
      have := giv_at vks θ (n + 1) hl' h1 m t (by simpa using ht)
      simpa [Nat.add_assoc, Nat.add_comm 1 m] using this
theorem giv_of {ρ ρ' : Env} {v0 : Nat} {vks : List VK} {θ : List E} (hag : Ag v0 ρ ρ') (hl : θ.length = vks.length) (h : varsD ρ' v0 vks = (argE vks θ).D ρ) : Giv v0 vks θ ρ ρ' :=
  ⟨hag, fun m k t hk ht => (giv_at vks θ v0 hl h m t ht).1 k hk, fun m t hk ht => (giv_at vks θ v0 hl h m t ht).2.1 hk, fun m ks t hk ht => (giv_at vks θ v0 hl h m t ht).2.2 ks hk⟩

/-! ### Places -/
def varsA (v : Nat) : List CE → List C × List VK
  | [] => ([], [])
  | some k :: ks => (.int k (.var v) :: (varsA (v + 1) ks).1, .int k :: (varsA (v + 1) ks).2)
  | none :: ks => (.bool (.bvar v) :: (varsA (v + 1) ks).1, .bool :: (varsA (v + 1) ks).2)
def setBox (heap : List Ob) (b o : Nat) (c : C) : Option (List Ob) := match heap[b]? with
  | some (.box cs ty) => if o < cs.length then some (heap.set b (.box (cs.set o c) ty)) else none
  | _ => none
def setBoxes (heap : List Ob) (b o : Nat) (l : List C) : Option (List Ob) := match heap[b]? with
  | some (.box cs ty) => if o + l.length ≤ cs.length then some (heap.set b (.box (cs.take o ++ (l ++ cs.drop (o + l.length))) ty)) else none
  | _ => none
def onlyV : Nat → List Nat → List V → List V
  | _, _, [] => []
  | n, [], _ :: l => .top :: onlyV (n + 1) [] l
  | n, k :: ks, v :: l => if Nat.beq n k then v :: onlyV (n + 1) ks l else .top :: onlyV (n + 1) (k :: ks) l
theorem onlyV_length : ∀ (l : List V) (n : Nat) (ks : List Nat), (onlyV n ks l).length = l.length
  | [], n, ks => by cases ks <;> rfl
  | v :: l, n, [] => by simp [onlyV, onlyV_length l]
  | v :: l, n, k :: ks => by unfold onlyV; split <;> simp [onlyV_length l]
def absP (v0 : Nat) (p : Pl) (x : St × List VK) : Option (St × List VK) :=
  let v := v0 + x.2.length
  match p with
  | .top t => if t < x.1.tmps.length then some ({ x.1 with tmps := x.1.tmps.set t .top }, x.2) else none
  | .tmpI t k => if t < x.1.tmps.length then some ({ x.1 with tmps := x.1.tmps.set t (.one (.int k (.var v))) }, x.2 ++ [.int k]) else none
  | .tmpB t => if t < x.1.tmps.length then some ({ x.1 with tmps := x.1.tmps.set t (.one (.bool (.bvar v))) }, x.2 ++ [.bool]) else none
  | .tmpA t ks => if t < x.1.tmps.length then some ({ x.1 with tmps := x.1.tmps.set t (.agg (varsA v ks).1) }, x.2 ++ (varsA v ks).2) else none
  | .tmpS t ks ty => if t < x.1.tmps.length then some (⟨x.1.tmps.set t (.one (.sl x.1.heap.length)), x.1.heap ++ [.row ⟨ks, ty, .lvar v, true, .sl⟩], x.1.n⟩, x.2 ++ [.list ks]) else none
  | .celI b o k => (setBox x.1.heap b o (.int k (.var v))).map fun h => (⟨x.1.tmps, h, x.1.n⟩, x.2 ++ [.int k])
  | .celB b o => (setBox x.1.heap b o (.bool (.bvar v))).map fun h => (⟨x.1.tmps, h, x.1.n⟩, x.2 ++ [.bool])
  | .only ks => some (⟨onlyV 0 ks x.1.tmps, x.1.heap, x.1.n⟩, x.2)
  | .cels b o ks => (setBoxes x.1.heap b o (varsA v ks).1).map fun h => (⟨x.1.tmps, h, x.1.n⟩, x.2 ++ (varsA v ks).2)
  | .celS b o ks ty => (setBox x.1.heap b o (.sl x.1.heap.length)).map fun h => (⟨x.1.tmps, h ++ [.row ⟨ks, ty, .lvar v, true, .sl⟩], x.1.n⟩, x.2 ++ [.list ks])
  | .row id => match x.1.heap[id]? with
    | some (.row r) => some (⟨x.1.tmps, x.1.heap.set id (.row { r with l := .lvar v }), x.1.n⟩, x.2 ++ [.list r.ks])
    | _ => none
  | .gone id => if id < x.1.heap.length then some (⟨x.1.tmps, x.1.heap.set id .gone, x.1.n⟩, x.2) else none
  | .ask => none
def absL (v0 : Nat) : List Pl → St × List VK → Option (St × List VK)
  | [], x => some x
  | p :: l, x => (absP v0 p x).bind (absL v0 l)
/-- What a state has at a place: an expression, or the row. -/
def cellsE : List CE → List C → Option (List E)
  | [], [] => some []
  | some k :: ks, .int k' e :: cs => if kdSame k k' then (cellsE ks cs).map (e :: ·) else none
  | none :: ks, .bool e :: cs => (cellsE ks cs).map (e :: ·)
  | _, _ => none
def rowArg (heap : List Ob) : C → Option (E × Option Nat)
  | .sl id => (rwS heap id).map fun r => (r.l, some id)
  | .nsl => some (.lnil, none)
  | _ => none
def argP (p : Pl) (s : St) : Option (List E × List (Option Nat)) :=
  match p with
  | .top _ => some ([], [])
  | .tmpI t _ => match s.tmps[t]? with | some (.one (.int _ e)) => some ([e], []) | _ => none
  | .tmpB t => match s.tmps[t]? with | some (.one (.bool e)) => some ([e], []) | _ => none
  | .tmpA t ks => match s.tmps[t]? with | some (.agg cs) => (cellsE ks cs).map fun l => (l, []) | _ => none
  | .tmpS t _ _ => match s.tmps[t]? with | some (.one c) => (rowArg s.heap c).map fun x => ([x.1], [x.2]) | _ => none
  | .celI b o _ => match ldS s.heap b o with | some (.int _ e) => some ([e], []) | _ => none
  | .celB b o => match ldS s.heap b o with | some (.bool e) => some ([e], []) | _ => none
  | .only _ => some ([], [])
  | .cels b o ks => match s.heap[b]? with | some (.box cs _) => ((seg cs o ks.length).bind (cellsE ks)).map fun l => (l, []) | _ => none
  | .celS b o _ _ => match ldS s.heap b o with | some c => (rowArg s.heap c).map fun x => ([x.1], [x.2]) | none => none
  | .row id => (rwS s.heap id).map fun r => ([r.l], [])
  | .gone _ => some ([], [])
  | .ask => none
def argL : List Pl → St → Option (List E × List (Option Nat))
  | [], _ => some ([], [])
  | p :: l, s => match argP p s, argL l s with
    | some x, some y => some (x.1 ++ y.1, x.2 ++ y.2)
    | _, _ => none

/-! ### One state of another one's -/
/-- A match: the numbers from v0 on, what they are given by; h0 elder things lie where they lay, the rows told behind them; the head's heap. -/
structure Mt where
  v0 : Nat
  vks : List VK
  θ : List E
  h0 : Nat
  ex : List (Option Nat)
  hd : List Ob
/-- Where a number of the head's heap lies: nothing for what is gone. -/
def Mt.sig (m : Mt) (a : Nat) : Option (Option Nat) := match m.hd[a]? with
  | some (.box _ _) | some (.row _) => if a < m.h0 then some (some a) else m.ex[a - m.h0]?
  | _ => none
def Mt.okI (m : Mt) (e e' : E) : Bool :=
  match e with
  | .var n => if m.v0 ≤ n then (match m.vks[n - m.v0]?, m.θ[n - m.v0]? with | some (.int _), some t => t.same e' | _, _ => false) else (match e' with | .var n' => Nat.beq n n' | _ => false)
  | e => e.same e' && e.sc m.v0
def Mt.okB (m : Mt) (e e' : E) : Bool :=
  match e with
  | .bvar n => if m.v0 ≤ n then (match m.vks[n - m.v0]?, m.θ[n - m.v0]? with | some .bool, some t => t.same e' | _, _ => false) else (match e' with | .bvar n' => Nat.beq n n' | _ => false)
  | e => e.same e' && e.sc m.v0
def Mt.okR (m : Mt) (e e' : E) : Bool :=
  match e with
  | .lvar n => if m.v0 ≤ n then (match m.vks[n - m.v0]?, m.θ[n - m.v0]? with | some (.list _), some t => t.same e' | _, _ => false) else (match e' with | .lvar n' => Nat.beq n n' | _ => false)
  | e => e.same e' && e.sc m.v0
def Mt.okId (m : Mt) (b b' : Nat) : Bool := match m.sig b with | some (some x) => Nat.beq x b' | _ => false
def Mt.okP (m : Mt) : Option (Bool × Nat × Nat) → Option (Bool × Nat × Nat) → Bool
  | none, none => true
  | some (true, b, o), some (true, b', o') => Nat.beq o o' && m.okId b b'
  | some (false, b, o), some (false, b', o') => Nat.beq o o' && Nat.beq b b'
  | _, _ => false
def Mt.okPs (m : Mt) : List (Option (Bool × Nat × Nat)) → List (Option (Bool × Nat × Nat)) → Bool
  | [], [] => true
  | x :: l, y :: r => m.okP x y && m.okPs l r
  | _, _ => false
def Mt.okC (m : Mt) (c d : C) : Bool :=
  match c with
  | .int k e => (match d with | .int k' e' => kdSame k k' && m.okI e e' | _ => false)
  | .bool e => (match d with | .bool e' => m.okB e e' | _ => false)
  | .ptr b o => (match d with | .ptr b' o' => Nat.beq o o' && m.okId b b' | _ => false)
  | .fp b o => (match d with | .fp b' o' => Nat.beq b b' && Nat.beq o o' | _ => false)
  | .fn f => (match d with | .fn f' => Nat.beq f f' | _ => false)
  | .nilp => (match d with | .nilp => true | _ => false)
  | .undef => (match d with | .undef => true | _ => false)
  | .sl id => (match d with | .sl id' => m.okId id id' | .nsl => (match m.sig id with | some none => true | _ => false) | _ => false)
  | .ep id z e o => (match d with | .ep id' z' e' o' => m.okId id id' && (Nat.beq z z' && (m.okI e e' && Nat.beq o o')) | _ => false)
  | .nsl => (match d with | .nsl => true | _ => false)
  | .nilf => (match d with | .nilf => true | _ => false)
  | .nmp => (match d with | .nmp => true | _ => false)
  | .pe b o n sz e off => (match d with | .pe b' o' n' sz' e' off' => m.okId b b' && (Nat.beq o o' && (Nat.beq n n' && (Nat.beq sz sz' && (m.okI e e' && Nat.beq off off')))) | _ => false)
  | .mp id => (match d with | .mp id' => m.okId id id' | _ => false)
  | .itp id mid => (match d with | .itp id' mid' => m.okId id id' && m.okId mid mid' | _ => false)
  | .clo g fs ps => (match d with | .clo g' fs' ps' => Nat.beq g g' && (m.okPs fs fs' && m.okPs ps ps') | _ => false)
def Mt.okCs (m : Mt) : List C → List C → Bool
  | [], [] => true
  | c :: cs, d :: ds => m.okC c d && m.okCs cs ds
  | _, _ => false
def Mt.okT (m : Mt) : List (Bool × List C) → List (Bool × List C) → Bool
  | [], [] => true
  | (t, cs) :: l, (t', ds) :: r => (t == t') && (m.okCs cs ds && m.okT l r)
  | _, _ => false
def Mt.okV (m : Mt) : V → V → Bool
  | .top, _ => true
  | .one c, .one d => m.okC c d
  | .agg cs, .agg ds => m.okCs cs ds
  | .tup l, .tup r => m.okT l r
  | _, _ => false
def Mt.okVs (m : Mt) : List V → List V → Bool
  | [], [] => true
  | v :: l, u :: r => m.okV v u && m.okVs l r
  | _, _ => false
def Mt.okK (m : Mt) : RK → RK → Bool
  | .sl, .sl => true
  | .map a b c, .map a' b' c' => Nat.beq a a' && ((b == b') && (c == c'))
  | .it mid n, .it mid' n' => m.okId mid mid' && m.okI n n'
  | _, _ => false
def Mt.okOb (m : Mt) (heap : List Ob) (a : Nat) : Ob → Bool
  | .gone => true
  | .box cs ty => match m.sig a with
    | some (some b) => (match heap[b]? with | some (.box ds ty') => Nat.beq ty ty' && m.okCs cs ds | _ => false)
    | _ => false
  | .row r => match m.sig a with
    | some (some b) => (match heap[b]? with | some (.row q) => ceSame r.ks q.ks && (Nat.beq r.ty q.ty && ((r.own == q.own) && (m.okR r.l q.l && m.okK r.kd q.kd))) | _ => false)
    | some none => (match r.ks with | [] => false | _ :: _ => m.okR r.l .lnil && r.kd.isSl)
    | none => false
def Mt.okHeap (m : Mt) (heap : List Ob) : Nat → List Ob → Bool
  | _, [] => true
  | a, ob :: l => m.okOb heap a ob && m.okHeap heap (a + 1) l
def Ob.isGone : Ob → Bool
  | .gone => true
  | _ => false
/-- The elder numbers that lie where they lay, and those told, are all different. -/
def exOk (hd : List Ob) (h0 : Nat) : List (Option Nat) → Bool
  | [] => true
  | none :: l => exOk hd h0 l
  | some b :: l => (if b < h0 then (match hd[b]? with | some ob => ob.isGone | none => false) else true) && ((l.all fun x => match x with | some b' => !Nat.beq b b' | none => true) && exOk hd h0 l)
def rngθ (vk : List VK) : List VK → List E → Bool
  | [], [] => true
  | .int k :: ks, e :: es => e.rng vk k && rngθ vk ks es
  | .bool :: ks, _ :: es => rngθ vk ks es
  | .list ks0 :: ks, e :: es => e.lok vk ks0 && rngθ vk ks es
  | _, _ => false
/-- Each list among the numbers is a row's. -/
def lisOk (v0 : Nat) (hd : List Ob) : Nat → List VK → Bool
  | _, [] => true
  | n, .list ks :: l => (hd.any fun ob => match ob with | .row r => (match r.l with | .lvar m => Nat.beq m (v0 + n) | _ => false) && ceSame r.ks ks | _ => false) && lisOk v0 hd (n + 1) l
  | n, _ :: l => lisOk v0 hd (n + 1) l
def Mt.ok (m : Mt) (cx : Cx) (vk : List VK) (tmps : List V) (s : St) : Bool :=
  (m.okVs tmps s.tmps && m.okHeap s.heap 0 m.hd) && (exOk m.hd m.h0 m.ex && ((cx.fb.all fun cs => m.okCs cs cs) && (rngθ vk m.vks m.θ && lisOk m.v0 m.hd 0 m.vks)))

/-! ### That it is -/
section
variable {m : Mt} {ρ ρ' : Env} {j : J}

theorem okI_ok (hg : Giv m.v0 m.vks m.θ ρ ρ') {e e' : E} (h : m.okI e e' = true) : e.I ρ' = e'.I ρ := by
  unfold Mt.okI at h
  split at h
  · rename_i n
    split at h
    · rename_i hn
      split at h
      · rename_i k t hk ht
        have h1 := hg.i _ _ t hk ht
        rw [show m.v0 + (n - m.v0) = n by omega] at h1
        rw [← E.same_eq h]
        exact h1
      · cases h
    · rename_i hn
      split at h
      · rename_i n'
        rw [← Nat.eq_of_beq_eq_true h]
        exact (hg.ag n (by omega)).1.symm
      · cases h
  · rw [Bool.and_eq_true] at h
    rw [← E.same_eq h.1]
    exact (E.sc_eq hg.ag _ h.2).1.symm
theorem okB_ok (hg : Giv m.v0 m.vks m.θ ρ ρ') {e e' : E} (h : m.okB e e' = true) : e.B ρ' = e'.B ρ := by
  unfold Mt.okB at h
  split at h
  · rename_i n
    split at h
    · rename_i hn
      split at h
      · rename_i t hk ht
        have h1 := hg.b _ t hk ht
        rw [show m.v0 + (n - m.v0) = n by omega] at h1
        rw [← E.same_eq h]
        exact h1
      · cases h
    · rename_i hn
      split at h
      · rename_i n'
        rw [← Nat.eq_of_beq_eq_true h]
        exact (hg.ag n (by omega)).2.1.symm
      · cases h
  · rw [Bool.and_eq_true] at h
    rw [← E.same_eq h.1]
    exact (E.sc_eq hg.ag _ h.2).2.1.symm
theorem okR_ok (hg : Giv m.v0 m.vks m.θ ρ ρ') {e e' : E} (h : m.okR e e' = true) : e.R ρ' = e'.R ρ := by
  unfold Mt.okR at h
  split at h
  · rename_i n
    split at h
    · rename_i hn
      split at h
      · rename_i ks t hk ht
        have h1 := hg.l _ _ t hk ht
        rw [show m.v0 + (n - m.v0) = n by omega] at h1
        rw [← E.same_eq h]
        exact h1
      · cases h
    · rename_i hn
      split at h
      · rename_i n'
        rw [← Nat.eq_of_beq_eq_true h]
        exact (hg.ag n (by omega)).2.2.symm
      · cases h
  · rw [Bool.and_eq_true] at h
    rw [← E.same_eq h.1]
    exact (E.sc_eq hg.ag _ h.2).2.2.2.1.symm

def nilSV : SV := ⟨none, 0, 0⟩
theorem nil_blk {o : Bool} {k : Nat} : ¬ nilSV.blk o = some k := fun h => by have := blk_some h; cases this
/-- Where the head's boxes and rows are. -/
def Mt.J (m : Mt) (j : J) : J :=
  ⟨fun b => match m.sig b with | some (some x) => j.b x | _ => none, fun id => match m.sig id with | some (some x) => j.s x | some none => some nilSV | none => none, j.f⟩
theorem okId_b {b b' : Nat} (h : m.okId b b' = true) : (m.J j).b b = j.b b' ∧ (m.J j).s b = j.s b' := by
  unfold Mt.okId at h
  split at h
  · rename_i x hx
    rw [← Nat.eq_of_beq_eq_true h]
    simp only [Mt.J, hx, and_self]
  · cases h
theorem okP_ok {x y : Option (Bool × Nat × Nat)} (h : m.okP x y = true) {v : Value} (hd : ptrV j y = some v) : ptrV (m.J j) x = some v := by
  unfold Mt.okP at h
  split at h
  · exact hd
  · simp only [Bool.and_eq_true] at h
    have := Nat.eq_of_beq_eq_true h.1
    subst this
    simp only [ptrV] at hd ⊢
    rw [(okId_b h.2).1]; exact hd
  · simp only [Bool.and_eq_true] at h
    rw [Nat.eq_of_beq_eq_true h.1, Nat.eq_of_beq_eq_true h.2]
    exact hd
  · cases h
theorem okPs_ok : ∀ {l r : List (Option (Bool × Nat × Nat))}, m.okPs l r = true → ∀ {vs : List Value}, ptrVs j r = some vs → ptrVs (m.J j) l = some vs
  | [], [], _, vs, hd => hd
  | x :: l, y :: r, h, vs, hd => by
    simp only [Mt.okPs, Bool.and_eq_true] at h
    simp only [ptrVs] at hd ⊢
    cases hx : ptrV j y with
    | none => rw [hx] at hd; cases hd
    | some v =>
      cases hl : ptrVs j r with
      | none => rw [hx, hl] at hd; cases hd
      | some us =>
        rw [hx, hl] at hd
        rw [okP_ok h.1 hx, okPs_ok h.2 hl]
        exact hd
theorem RK.isSl_eq {k : RK} (h : k.isSl = true) : k = .sl := by cases k <;> first | rfl | cases h
def kdSm (ρ ρ' : Env) : RK → RK → Prop
  | .sl, .sl => True
  | .map a b c, .map a' b' c' => a = a' ∧ b = b' ∧ c = c'
  | .it _ n, .it _ n' => n.I ρ' = n'.I ρ
  | _, _ => False
theorem okK_ok (hg : Giv m.v0 m.vks m.θ ρ ρ') {a b : RK} (h : m.okK a b = true) : kdSm ρ ρ' a b := by
  cases a <;> cases b <;> simp only [Mt.okK] at h <;> first | exact Bool.noConfusion h | skip
  · trivial
  · simp only [Bool.and_eq_true, beq_iff_eq] at h
    exact ⟨Nat.eq_of_beq_eq_true h.1, h.2.1, h.2.2⟩
  · simp only [Bool.and_eq_true] at h
    exact okI_ok hg h.2
theorem RowOk.swap {base : Nat} {w : World} {v : SV} {r q : RowOb} (e1 : r.ks = q.ks) (e2 : r.ty = q.ty) (e3 : r.own = q.own) (e4 : r.l.R ρ' = q.l.R ρ) (e5 : kdSm ρ ρ' r.kd q.kd) (h : RowOk ρ base w v q) : RowOk ρ' base w v r := by
  rcases h.cases with ⟨hk, h6⟩ | ⟨hk, h6⟩
  · have hk' : r.kd = .sl := by
      rw [hk] at e5
      cases hr : r.kd <;> rw [hr] at e5 <;> first | rfl | exact e5.elim
    refine SlOk.row ⟨?_, ?_, ?_, by rw [e3]; exact h6.lt, fun ho => ?_, ?_⟩ hk'
    · rw [e4]; exact h6.n
    · rw [e1, e4]; exact h6.rows
    · rw [e1]; exact h6.pos
    · rw [e1, e2, e4]; exact h6.own (by rw [← e3]; exact ho)
    · rw [e1, e4]; exact h6.rd
  · obtain ⟨g, ob, h1, h2, h3, h4⟩ := h6.at'
    refine HdOk.row ⟨by rw [e3]; exact h6.own, by rw [e1, e4]; exact h6.rows, h6.c, g, ob, h1, h2, h3, ?_⟩ (fun hr => ?_)
    · unfold obOf at h4 ⊢
      cases hr : r.kd <;> cases hq : q.kd <;> rw [hr, hq] at e5 <;> first | exact e5.elim | skip
      · exact absurd hq hk
      · rw [hq] at h4
        obtain ⟨rfl, rfl, rfl⟩ := e5
        rw [e1, e4]
        exact h4
      · rw [hq] at h4
        have e5' : _ = _ := e5
        dsimp only at h4 ⊢
        rw [e1, e4, e5']
        exact h4
    · rw [hr] at e5
      cases hq : q.kd <;> rw [hq] at e5 <;> first | exact hk hq | exact e5.elim
theorem okC_ok (hg : Giv m.v0 m.vks m.θ ρ ρ') {c d : C} (h : m.okC c d = true) {v : Value} (hd : d.den ρ j = some v) : c.den ρ' (m.J j) = some v := by
  cases c with
  | int k e =>
    simp only [Mt.okC] at h
    split at h
    · simp only [Bool.and_eq_true] at h
      simp only [C.den] at hd ⊢
      rw [kdSame_eq h.1, okI_ok hg h.2]; exact hd
    · cases h
  | bool e =>
    simp only [Mt.okC] at h
    split at h
    · simp only [C.den] at hd ⊢; rw [okB_ok hg h]; exact hd
    · cases h
  | ptr b o =>
    simp only [Mt.okC] at h
    split at h
    · simp only [Bool.and_eq_true] at h
      simp only [C.den] at hd ⊢
      rw [Nat.eq_of_beq_eq_true h.1, (okId_b h.2).1]; exact hd
    · cases h
  | fp b o =>
    simp only [Mt.okC] at h
    split at h
    · simp only [Bool.and_eq_true] at h
      rw [Nat.eq_of_beq_eq_true h.1, Nat.eq_of_beq_eq_true h.2]; exact hd
    · cases h
  | fn f =>
    simp only [Mt.okC] at h
    split at h
    · rw [Nat.eq_of_beq_eq_true h]; exact hd
    · cases h
  | nilp => simp only [Mt.okC] at h; split at h <;> first | exact hd | cases h
  | undef => simp only [Mt.okC] at h; split at h <;> first | exact hd | cases h
  | nsl => simp only [Mt.okC] at h; split at h <;> first | exact hd | cases h
  | nilf => simp only [Mt.okC] at h; split at h <;> first | exact hd | cases h
  | nmp => simp only [Mt.okC] at h; split at h <;> first | exact hd | cases h
  | clo g fs ps =>
    simp only [Mt.okC] at h
    split at h
    · rename_i g' fs' ps'
      simp only [Bool.and_eq_true] at h
      obtain ⟨x, y, hx, hy, rfl⟩ := cloV_some (show cloV g' (ptrVs j fs') (ptrVs j ps') = some v from hd)
      simp only [C.den, okPs_ok h.2.1 hx, okPs_ok h.2.2 hy, cloV, Nat.eq_of_beq_eq_true h.1]
    · cases h
  | sl id =>
    simp only [Mt.okC] at h
    split at h
    · simp only [C.den] at hd ⊢
      rw [(okId_b h).2]; exact hd
    · split at h
      · rename_i hs
        cases hd
        simp only [C.den, Mt.J, hs]
        rfl
      · cases h
    · cases h
  | pe b o n sz e off =>
    simp only [Mt.okC] at h
    split at h
    · simp only [Bool.and_eq_true] at h
      simp only [C.den] at hd ⊢
      rw [(okId_b h.1).1, Nat.eq_of_beq_eq_true h.2.1, Nat.eq_of_beq_eq_true h.2.2.2.1, okI_ok hg h.2.2.2.2.1, Nat.eq_of_beq_eq_true h.2.2.2.2.2]; exact hd
    · cases h
  | mp id =>
    simp only [Mt.okC] at h
    split at h
    · simp only [C.den] at hd ⊢
      rw [(okId_b h).2]; exact hd
    · cases h
  | itp id mid =>
    simp only [Mt.okC] at h
    split at h
    · simp only [Bool.and_eq_true] at h
      simp only [C.den] at hd ⊢
      rw [(okId_b h.1).2, (okId_b h.2).2]; exact hd
    · cases h
  | ep id z e o =>
    simp only [Mt.okC] at h
    split at h
    · simp only [Bool.and_eq_true] at h
      simp only [C.den] at hd ⊢
      rw [(okId_b h.1).2, Nat.eq_of_beq_eq_true h.2.1, okI_ok hg h.2.2.1, Nat.eq_of_beq_eq_true h.2.2.2]; exact hd
    · cases h
theorem okCs_ok (hg : Giv m.v0 m.vks m.θ ρ ρ') : ∀ {cs ds : List C}, m.okCs cs ds = true → ∀ {vs : List Value}, denL ρ j ds = some vs → denL ρ' (m.J j) cs = some vs
  | [], [], _, vs, h => h
  | c :: cs, d :: ds, h, vs, hd => by
    simp only [Mt.okCs, Bool.and_eq_true] at h
    simp only [denL] at hd ⊢
    cases hc : d.den ρ j with
    | none => rw [hc] at hd; cases hd
    | some v =>
      cases hl : denL ρ j ds with
      | none => rw [hc, hl] at hd; cases hd
      | some l =>
        rw [hc, hl] at hd
        rw [okC_ok hg h.1 hc, okCs_ok hg h.2 hl]
        exact hd
theorem okT_ok (hg : Giv m.v0 m.vks m.θ ρ ρ') : ∀ {cs ds : List (Bool × List C)}, m.okT cs ds = true → ∀ {vs : List Value}, den0L ρ j ds = some vs → den0L ρ' (m.J j) cs = some vs
  | [], [], _, vs, h => h
  | (t, cs) :: l, (t', ds) :: r, h, vs, hd => by
    simp only [Mt.okT, Bool.and_eq_true, beq_iff_eq] at h
    obtain ⟨rfl, h1, h2⟩ := h
    simp only [den0L] at hd ⊢
    cases hc : den0 ρ j (t, ds) with
    | none => rw [hc] at hd; cases hd
    | some v =>
      cases hl : den0L ρ j r with
      | none => rw [hc, hl] at hd; cases hd
      | some us =>
        rw [hc, hl] at hd
        have h3 : den0 ρ' (m.J j) (t, cs) = some v := by
          cases t with
          | true =>
            simp only [den0, Option.map_eq_some_iff] at hc ⊢
            obtain ⟨vs', hv, rfl⟩ := hc
            exact ⟨vs', okCs_ok hg h1 hv, rfl⟩
          | false =>
            match ds, hc with
            | [d], hc =>
              match cs, h1 with
              | [c], h1 =>
                simp only [Mt.okCs, Bool.and_true] at h1
                exact okC_ok hg h1 hc
              | _ :: _ :: _, h1 => simp [Mt.okCs] at h1
        rw [h3, okT_ok hg h2 hl]
        exact hd
theorem okV_ok (hg : Giv m.v0 m.vks m.θ ρ ρ') {x y : V} (h : m.okV x y = true) : x = .top ∨ (y ≠ .top ∧ ∀ {v}, y.den ρ j = some v → x.den ρ' (m.J j) = some v) := by
  unfold Mt.okV at h
  split at h
  · exact .inl rfl
  · exact .inr ⟨fun e => (by cases e), fun hd => okC_ok hg h hd⟩
  · refine .inr ⟨fun e => (by cases e), fun hd => ?_⟩
    simp only [V.den, Option.map_eq_some_iff] at hd ⊢
    obtain ⟨l, hl, rfl⟩ := hd
    exact ⟨l, okCs_ok hg h hl, rfl⟩
  · refine .inr ⟨fun e => (by cases e), fun hd => ?_⟩
    simp only [V.den, Option.map_eq_some_iff] at hd ⊢
    obtain ⟨l, hl, rfl⟩ := hd
    exact ⟨l, okT_ok hg h hl, rfl⟩
  · cases h
theorem okVs_at : ∀ {l r : List V}, m.okVs l r = true → l.length = r.length ∧ ∀ (i : Nat) x y, l[i]? = some x → r[i]? = some y → m.okV x y = true
  | [], [], _ => ⟨rfl, fun i x y h => by simp at h⟩
  | v :: l, u :: r, h => by
    simp only [Mt.okVs, Bool.and_eq_true] at h
    obtain ⟨h1, h2⟩ := okVs_at h.2
    refine ⟨by simp [h1], fun i x y hx hy => ?_⟩
    cases i with
    | zero => simp at hx hy; subst hx; subst hy; exact h.1
    | succ i => exact h2 i x y (by simpa using hx) (by simpa using hy)
theorem okHeap_at {heap : List Ob} : ∀ {l : List Ob} {a : Nat}, m.okHeap heap a l = true → ∀ (i : Nat) ob, l[i]? = some ob → m.okOb heap (a + i) ob = true
  | [], a, _, i, ob, hi => by simp at hi
  | x :: l, a, h, i, ob, hi => by
    simp only [Mt.okHeap, Bool.and_eq_true] at h
    cases i with
    | zero => simp at hi; subst hi; exact h.1
    | succ i =>
      have := okHeap_at h.2 i ob (by simpa using hi)
      rwa [show a + (i + 1) = a + 1 + i by omega]
theorem exOk_at {hd : List Ob} {h0 : Nat} : ∀ {ex : List (Option Nat)}, exOk hd h0 ex = true → (∀ (i : Nat) b, ex[i]? = some (some b) → b < h0 → ∃ ob, hd[b]? = some ob ∧ ob.isGone = true) ∧ ∀ (i i' : Nat) b, ex[i]? = some (some b) → ex[i']? = some (some b) → i = i'
  | [], _ => ⟨fun i b h => by simp at h, fun i i' b h => by simp at h⟩
  | x :: l, h => by
    have key : exOk hd h0 l = true ∧ ∀ b, x = some b → (b < h0 → ∃ ob, hd[b]? = some ob ∧ ob.isGone = true) ∧ ∀ (i : Nat), l[i]? ≠ some (some b) := by
      cases x with
      | none => exact ⟨h, fun b hb => by cases hb⟩
      | some b =>
        simp only [exOk, Bool.and_eq_true] at h
        refine ⟨h.2.2, fun b' hb => ?_⟩
        cases hb
        refine ⟨fun hlt => ?_, fun i hi => ?_⟩
        · have h1 := h.1
          rw [if_pos hlt] at h1
          split at h1
          · rename_i ob hob; exact ⟨ob, hob, h1⟩
          · cases h1
        · have h2 := List.all_eq_true.1 h.2.1 _ (List.mem_of_getElem? hi)
          simp at h2
    obtain ⟨k1, k2⟩ := key
    obtain ⟨g1, g2⟩ := exOk_at k1
    refine ⟨fun i b hi hb => ?_, fun i i' b hi hi' => ?_⟩
    · cases i with
      | zero => simp at hi; exact (k2 b hi).1 hb
      | succ i => exact g1 i b (by simpa using hi) hb
    · cases i with
      | zero =>
        simp at hi
        cases i' with
        | zero => rfl
        | succ i' => exact absurd (by simpa using hi') ((k2 b hi).2 i')
      | succ i =>
        cases i' with
        | zero =>
          simp at hi'
          exact absurd (by simpa using hi) ((k2 b hi').2 i)
        | succ i' => rw [g2 i i' b (by simpa using hi) (by simpa using hi')]
theorem sig_inj (h : exOk m.hd m.h0 m.ex = true) {a a' x : Nat} (h1 : m.sig a = some (some x)) (h2 : m.sig a' = some (some x)) : a = a' := by
  obtain ⟨g1, g2⟩ := exOk_at h
  have key : ∀ a, m.sig a = some (some x) → (a < m.h0 ∧ a = x ∧ ∃ ob, m.hd[a]? = some ob ∧ ob.isGone = false) ∨ (m.h0 ≤ a ∧ m.ex[a - m.h0]? = some (some x)) := by
    intro a ha
    unfold Mt.sig at ha
    split at ha
    all_goals first
      | cases ha; done
      | split at ha
        · rename_i hob hlt
          cases ha
          exact .inl ⟨hlt, rfl, _, hob, rfl⟩
        · exact .inr ⟨by omega, ha⟩
  rcases key a h1 with ⟨k1, k2, ob, k3, k4⟩ | ⟨k1, k2⟩ <;> rcases key a' h2 with ⟨l1, l2, ob', l3, l4⟩ | ⟨l1, l2⟩
  · omega
  · subst k2
    obtain ⟨ob1, q1, q2⟩ := g1 _ _ l2 k1
    rw [k3] at q1; cases q1
    rw [k4] at q2; cases q2
  · subst l2
    obtain ⟨ob1, q1, q2⟩ := g1 _ _ k2 l1
    rw [l3] at q1; cases q1
    rw [l4] at q2; cases q2
  · have := g2 _ _ _ k2 l2
    omega

theorem okHeap_hd {heap : List Ob} (h : m.okHeap heap 0 m.hd = true) {a : Nat} {ob : Ob} (ha : m.hd[a]? = some ob) : m.okOb heap a ob = true := by
  have := okHeap_at h a ob ha
  rwa [Nat.zero_add] at this
/-- The state is one of the head's. -/
theorem match_rel {cx : Cx} {vk : List VK} {tmps : List V} {s : St} {n : Nat} {X : List Value} {W0 w : World} {a : Act} (hok : m.ok cx vk tmps s = true) (hg : Giv m.v0 m.vks m.θ ρ ρ') (h : Rel ρ n X W0 cx.fbs s.fs j a w) : Rel ρ' n X W0 cx.fbs (St.mk tmps m.hd s.n).fs (m.J j) a w := by
  simp only [Mt.ok, Bool.and_eq_true] at hok
  obtain ⟨⟨hT, hH⟩, hX, hF, -, -⟩ := hok
  obtain ⟨hl, hat⟩ := okVs_at hT
  have sigRow : ∀ {b : Nat} {ob : Ob}, s.heap[b]? = some ob → ∀ {cs ty}, ob = .box cs ty → s.fs.row b = none := fun hb _ _ e => by
    subst e; simp only [St.fs, fsOf, rowH, hb]
  have sigBox : ∀ {b : Nat} {ob : Ob}, s.heap[b]? = some ob → ∀ {r}, ob = .row r → s.fs.box b = none := fun hb _ e => by
    subst e; simp only [St.fs, fsOf, boxH, hb]
  -- what the head has at a number, and where it lies
  have boxAt : ∀ {b cs ty}, m.hd[b]? = some (.box cs ty) → ∃ x ds, m.sig b = some (some x) ∧ s.heap[x]? = some (.box ds ty) ∧ m.okCs cs ds = true := by
    intro b cs ty hb
    have h1 := okHeap_hd hH hb
    simp only [Mt.okOb] at h1
    split at h1
    · rename_i x hx
      split at h1
      · rename_i ds ty' hds
        simp only [Bool.and_eq_true] at h1
        have := Nat.eq_of_beq_eq_true h1.1
        subst this
        exact ⟨x, ds, hx, hds, h1.2⟩
      · cases h1
    · cases h1
  have rowAt : ∀ {b r}, m.hd[b]? = some (.row r) → (∃ x q, m.sig b = some (some x) ∧ s.heap[x]? = some (.row q) ∧ r.ks = q.ks ∧ r.ty = q.ty ∧ r.own = q.own ∧ r.l.R ρ' = q.l.R ρ ∧ m.okK r.kd q.kd = true) ∨ (m.sig b = some none ∧ 0 < r.ks.length ∧ r.l.R ρ' = [] ∧ r.kd = .sl) := by
    intro b r hb
    have h1 := okHeap_hd hH hb
    simp only [Mt.okOb] at h1
    split at h1
    · rename_i x hx
      split at h1
      · rename_i q hq
        simp only [Bool.and_eq_true, beq_iff_eq] at h1
        exact .inl ⟨x, q, hx, hq, ceSame_eq h1.1, Nat.eq_of_beq_eq_true h1.2.1, h1.2.2.1, okR_ok hg h1.2.2.2.1, h1.2.2.2.2⟩
      · cases h1
    · rename_i hx
      split at h1
      · cases h1
      · rename_i k ks hk
        rw [Bool.and_eq_true] at h1
        exact .inr ⟨hx, by rw [hk]; simp, okR_ok hg h1.1, RK.isSl_eq h1.2⟩
    · cases h1
  have noneSig : ∀ {b}, (∀ cs ty, m.hd[b]? ≠ some (.box cs ty)) → (∀ r, m.hd[b]? ≠ some (.row r)) → m.sig b = none := by
    intro b h1 h2
    unfold Mt.sig
    split
    · rename_i hb; exact absurd hb (h1 _ _)
    · rename_i hb; exact absurd hb (h2 _)
    · rfl
  have fsBox : ∀ b cs ty, (St.mk tmps m.hd s.n).fs.box b = some (cs, ty) → m.hd[b]? = some (.box cs ty) := by
    intro b cs ty hb
    simp only [St.fs, fsOf, boxH] at hb
    split at hb
    · rename_i cs' ty' hb'; cases hb; exact hb'
    · cases hb
  have fsRow : ∀ b r, (St.mk tmps m.hd s.n).fs.row b = some (some r) → m.hd[b]? = some (.row r) := by
    intro b r hb
    simp only [St.fs, fsOf, rowH] at hb
    split at hb
    · rename_i r' hb'; cases hb; exact hb'
    · cases hb
    · cases hb
  have rowBack : ∀ {x q}, s.heap[x]? = some (.row q) → s.fs.row x = some (some q) := fun hx => by simp only [St.fs, fsOf, rowH, hx]
  have boxBack : ∀ {x cs ty}, s.heap[x]? = some (.box cs ty) → s.fs.box x = some (cs, ty) := fun hx => by simp only [St.fs, fsOf, boxH, hx]
  have at1 : ∀ t v, (s.fs.tmp t = .top ∨ (s.fs.tmp t).den ρ j = some v) → ((St.mk tmps m.hd s.n).fs.tmp t = .top ∨ ((St.mk tmps m.hd s.n).fs.tmp t).den ρ' (m.J j) = some v) := by
    intro t v h2
    rcases Nat.lt_or_ge t tmps.length with h3 | h3
    · have h4 : s.tmps[t]? = some (s.tmps[t]'(by omega)) := List.getElem?_eq_getElem _
      have h5 := hat t _ _ (List.getElem?_eq_getElem h3) h4
      have e1 : (St.mk tmps m.hd s.n).fs.tmp t = tmps[t] := by simp [St.fs, fsOf, List.getElem?_eq_getElem h3]
      have e2 : s.fs.tmp t = s.tmps[t]'(by omega) := by simp only [St.fs, fsOf, h4]; rfl
      rw [e1]
      rw [e2] at h2
      rcases okV_ok hg (j := j) h5 with h6 | ⟨h6, h7⟩
      · exact .inl h6
      · rcases h2 with h2 | h2
        · exact absurd h2 h6
        · exact .inr (h7 h2)
    · have e1 : (St.mk tmps m.hd s.n).fs.tmp t = .one .undef := by simp only [St.fs, fsOf]; rw [List.getElem?_eq_none h3]; rfl
      have e2 : s.fs.tmp t = .one .undef := by simp only [St.fs, fsOf]; rw [List.getElem?_eq_none (by omega)]; rfl
      rw [e1]
      rw [e2] at h2
      rcases h2 with h2 | h2
      · cases h2
      · exact .inr h2
  refine ⟨h.defers, h.size, fun t ht => ?_, fun i v hi => at1 _ v (h.sav i v hi), fun b cs ty hb => ?_, fun b hb => ?_, fun b b' k hb hb' => ?_, fun b r hb => ?_, fun b hb => ?_, fun b b' k r v hb hr hs hk => ?_, fun b b' r r' v v' k hr ho hr' hs hs' hk hk' => ?_, fun b cs hb => ?_, h.ext⟩
  · obtain ⟨v, h1, h2⟩ := h.tmp t ht
    exact ⟨v, h1, at1 t v h2⟩
  · obtain ⟨x, ds, h1, h2, h3⟩ := boxAt (fsBox b cs ty hb)
    obtain ⟨k, vs, h4, h5, h6, h7⟩ := h.box x ds ty (boxBack h2)
    exact ⟨k, vs, by simp only [Mt.J, h1]; exact h4, h5, okCs_ok hg h3 h6, h7⟩
  · simp only [Mt.J]
    cases hs : m.hd[b]? with
    | none => rw [noneSig (by rw [hs]; intros; simp) (by rw [hs]; intros; simp)]
    | some ob =>
      cases ob with
      | box cs ty => simp [St.fs, fsOf, boxH, hs] at hb
      | gone => rw [noneSig (by rw [hs]; intros; simp) (by rw [hs]; intros; simp)]
      | row r =>
        rcases rowAt hs with ⟨x, q, h1, h2, _⟩ | ⟨h1, _⟩
        · rw [h1]; exact h.nob x (sigBox h2 rfl)
        · rw [h1]
  · simp only [Mt.J] at hb hb'
    split at hb <;> first | cases hb; done | skip
    rename_i x hx
    split at hb' <;> first | cases hb'; done | skip
    rename_i x' hx'
    have := h.inj x x' k hb hb'
    subst this
    exact sig_inj hX hx hx'
  · rcases rowAt (fsRow b r hb) with ⟨x, q, h1, h2, e1, e2, e3, e4, e5⟩ | ⟨h1, h2, h3, h4⟩
    · obtain ⟨v, h5, h6⟩ := h.row x q (rowBack h2)
      exact ⟨v, by simp only [Mt.J, h1]; exact h5, RowOk.swap e1 e2 e3 e4 (okK_ok hg e5) h6⟩
    · refine ⟨nilSV, by simp only [Mt.J, h1], SlOk.row ⟨by rw [h3]; rfl, by rw [h3]; exact ⟨fun r hr => (by cases hr), by simp⟩, h2, fun k hk => absurd hk nil_blk, fun _ => (by rw [h3]; exact World.ownsRow_nil _ _ _ _), ?_⟩ h4⟩
      rw [h3]
      exact ⟨by simp [flat, nilSV], Nat.le_refl _, by simp [nilSV, maxLen], fun _ => ⟨rfl, rfl⟩, fun a ha => (by cases ha)⟩
  · simp only [Mt.J]
    cases hs : m.hd[b]? with
    | none => rw [noneSig (by rw [hs]; intros; simp) (by rw [hs]; intros; simp)]
    | some ob =>
      cases ob with
      | row r => simp [St.fs, fsOf, rowH, hs] at hb
      | gone => simp [St.fs, fsOf, rowH, hs] at hb
      | box cs ty =>
        obtain ⟨x, ds, h1, h2, h3⟩ := boxAt hs
        rw [h1]; exact h.nor x (sigRow h2 rfl)
  · simp only [Mt.J] at hb hs
    split at hb <;> first | cases hb; done | skip
    rename_i x hx
    rcases rowAt (fsRow b' r hr) with ⟨x', q, h1, h2, _, _, e3, _⟩ | ⟨h1, _⟩
    · rw [h1] at hs
      exact h.sep x x' k q v hb (rowBack h2) hs (by rw [← e3]; exact hk)
    · rw [h1] at hs
      cases hs
      exact nil_blk hk
  · simp only [Mt.J] at hs hs'
    rcases rowAt (fsRow b r hr) with ⟨x, q, h1, h2, _, _, e3, _⟩ | ⟨h1, _⟩
    · rcases rowAt (fsRow b' r' hr') with ⟨x', q', h1', h2', _, _, e3', _⟩ | ⟨h1', _⟩
      · rw [h1] at hs
        rw [h1'] at hs'
        have := h.rsep x x' q q' v v' k (rowBack h2) (by rw [← e3]; exact ho) (rowBack h2') hs hs' (by rw [← e3]; exact hk) (by rw [← e3']; exact hk')
        subst this
        exact sig_inj hX h1 h1'
      · rw [h1'] at hs'
        cases hs'
        exact absurd hk' nil_blk
    · rw [h1] at hs
      cases hs
      exact absurd hk nil_blk
  · obtain ⟨k, vs, h1, h2, h3, h4⟩ := h.fb b cs hb
    refine ⟨k, vs, h1, h2, okCs_ok hg ?_ h3, h4⟩
    exact List.all_eq_true.1 hF cs (List.mem_of_getElem? hb)

/-- An environment in which the numbers are given. -/
def givE (v0 : Nat) (θ : List E) (ρ : Env) : Env :=
  ⟨fun i => if v0 ≤ i then (match θ[i - v0]? with | some t => t.I ρ | none => 0) else ρ.i i, fun i => if v0 ≤ i then (match θ[i - v0]? with | some t => t.B ρ | none => false) else ρ.b i, fun i => if v0 ≤ i then (match θ[i - v0]? with | some t => t.R ρ | none => []) else ρ.l i⟩
theorem givE_ok (v0 : Nat) (vks : List VK) (θ : List E) (ρ : Env) : Giv v0 vks θ ρ (givE v0 θ ρ) := by
  refine ⟨fun i hi => ?_, fun m k t _ ht => ?_, fun m t _ ht => ?_, fun m ks t _ ht => ?_⟩
  · have : ¬ v0 ≤ i := by omega
    simp [givE, this]
  all_goals simp [givE, ht]
theorem rngθ_len {vk : List VK} : ∀ {vks : List VK} {θ : List E}, rngθ vk vks θ = true → θ.length = vks.length
  | [], [], _ => rfl
  | .int k :: ks, e :: es, h => by simp only [rngθ, Bool.and_eq_true] at h; simp [rngθ_len h.2]
  | .bool :: ks, e :: es, h => by simp only [rngθ] at h; simp [rngθ_len h]
  | .list k :: ks, e :: es, h => by simp only [rngθ, Bool.and_eq_true] at h; simp [rngθ_len h.2]
  | .int _ :: _, [], h => by cases h
  | .bool :: _, [], h => by cases h
  | .list _ :: _, [], h => by cases h
theorem rngθ_ok {vk : List VK} (hv : Vk ρ vk) : ∀ {vks : List VK} {θ : List E}, rngθ vk vks θ = true → (∀ (i : Nat) ks t, vks[i]? = some (.list ks) → θ[i]? = some t → (t.R ρ).length ≤ maxLen) → okDs vks ((argE vks θ).D ρ)
  | [], [], _, _ => trivial
  | .int k :: ks, e :: es, h, hl => by
    simp only [rngθ, Bool.and_eq_true] at h
    exact ⟨E.rng_ok hv e h.1, rngθ_ok hv h.2 (fun i k t h1 h2 => hl (i + 1) k t (by simpa using h1) (by simpa using h2))⟩
  | .bool :: ks, e :: es, h, hl => by
    simp only [rngθ] at h
    refine ⟨?_, rngθ_ok hv h (fun i k t h1 h2 => hl (i + 1) k t (by simpa using h1) (by simpa using h2))⟩
    show b2i (e.B ρ) = 0 ∨ b2i (e.B ρ) = 1
    cases e.B ρ <;> simp [b2i]
  | .list k :: ks, e :: es, h, hl => by
    simp only [rngθ, Bool.and_eq_true] at h
    exact ⟨⟨E.lok_ok hv e h.1, hl 0 k e rfl rfl⟩, rngθ_ok hv h.2 (fun i k t h1 h2 => hl (i + 1) k t (by simpa using h1) (by simpa using h2))⟩
  | .int _ :: _, [], h, _ => by cases h
  | .bool :: _, [], h, _ => by cases h
  | .list _ :: _, [], h, _ => by cases h
theorem lisOk_at {v0 : Nat} {hd : List Ob} : ∀ {vks : List VK} {n : Nat}, lisOk v0 hd n vks = true → ∀ (i : Nat) ks, vks[i]? = some (.list ks) → ∃ r : RowOb, .row r ∈ hd ∧ r.l = .lvar (v0 + (n + i))
  | [], n, _, i, ks, hi => by simp at hi
  | k :: l, n, h, i, ks, hi => by
    cases i with
    | zero =>
      simp only [List.getElem?_cons_zero, Option.some.injEq] at hi
      subst hi
      simp only [lisOk, Bool.and_eq_true, List.any_eq_true] at h
      obtain ⟨ob, h1, h2⟩ := h.1
      split at h2
      · rename_i r
        rw [Bool.and_eq_true] at h2
        have h3 := h2.1
        split at h3
        · rename_i m hm
          exact ⟨r, h1, by rw [hm, Nat.eq_of_beq_eq_true h3]; rfl⟩
        · cases h3
      · cases h2
    | succ i =>
      have h' : lisOk v0 hd (n + 1) l = true := by
        cases k <;> first | exact h | (simp only [lisOk, Bool.and_eq_true] at h; exact h.2)
      obtain ⟨r, h1, h2⟩ := lisOk_at h' i ks (by simpa using hi)
      exact ⟨r, h1, by rw [h2]; congr 1; omega⟩
theorem match_okDs {cx : Cx} {vk : List VK} {tmps : List V} {s : St} {n : Nat} {X : List Value} {W0 w : World} {a : Act} (hok : m.ok cx vk tmps s = true) (hv : Vk ρ vk) (h : Rel ρ n X W0 cx.fbs s.fs j a w) : m.θ.length = m.vks.length ∧ okDs m.vks ((argE m.vks m.θ).D ρ) := by
  have hrel := match_rel hok (givE_ok m.v0 m.vks m.θ ρ) h
  simp only [Mt.ok, Bool.and_eq_true] at hok
  obtain ⟨_, _, _, hR, hL⟩ := hok
  refine ⟨rngθ_len hR, rngθ_ok hv hR (fun i ks t hi ht => ?_)⟩
  obtain ⟨r, h1, h2⟩ := lisOk_at hL i ks hi
  obtain ⟨b, hb, he⟩ := List.getElem_of_mem h1
  have hrow : (St.mk tmps m.hd s.n).fs.row b = some (some r) := by simp [St.fs, fsOf, rowH, List.getElem?_eq_getElem hb, he]
  obtain ⟨v, _, h3⟩ := hrel.row b r hrow
  have h4 := h3.rows.len
  rw [h2, Nat.zero_add] at h4
  have h5 := (givE_ok m.v0 m.vks m.θ ρ).l i ks t hi ht
  simp only [E.R] at h4
  rw [h5] at h4
  exact h4
end
end Go.Proofs.Ytgfghplnankgnaa


/- The symbolic run of a function's whole code, with loops and joins, and that it is sound. Nothing of the program is in here. -/
set_option linter.unusedVariables false
set_option linter.unusedSimpArgs false
namespace Go.Proofs.Ytgfghplnankgnaa
open Go.RowKit

/-! ### The order of a drawn region -/
def maskOf (o : Oper) (ms : List Nat) : Nat :=
  o.after.toList.foldl (fun m e => if Region.binds .any e then m ||| (2 ^ e.on ||| ms.getD e.on 0) else m) 0
def pairsOk (ops : Array Oper) (r : Rec) (m : Nat) : Nat → List Rec → Bool
  | _, [] => true
  | k, x :: pre => (m.testBit k || indep ops x r) && pairsOk ops r m (k + 1) pre
def ordK (ops : Array Oper) : List Rec → Nat → List Rec → List Nat → Bool
  | [], _, _, _ => true
  | r :: l, i, pre, ms =>
    (r.o.after.toList.all fun e => !Region.binds .any e || decide (e.on < i)) && (pairsOk ops r (maskOf r.o ms) 0 pre && ordK ops l (i + 1) (pre ++ [r]) (ms ++ [maskOf r.o ms]))

section
variable {ops : Array Oper}

theorem mask_bit {ms : List Nat} {k : Nat} : ∀ (l : List Edge) (m0 : Nat), (l.foldl (fun m e => if Region.binds .any e then m ||| (2 ^ e.on ||| ms.getD e.on 0) else m) m0).testBit k = true →
    m0.testBit k = true ∨ ∃ e ∈ l, Region.binds .any e = true ∧ (k = e.on ∨ (ms.getD e.on 0).testBit k = true)
  | [], m0, h => .inl h
  | e :: l, m0, h => by
    simp only [List.foldl_cons] at h
    rcases mask_bit l _ h with h1 | ⟨e', h1, h2⟩
    · split at h1
      · rename_i hb
        rw [Nat.testBit_or, Nat.testBit_or, Nat.testBit_two_pow, Bool.or_eq_true, Bool.or_eq_true, decide_eq_true_eq] at h1
        rcases h1 with h1 | h1 | h1
        · exact .inl h1
        · exact .inr ⟨e, List.mem_cons_self, hb, .inl h1.symm⟩
        · exact .inr ⟨e, List.mem_cons_self, hb, .inr h1⟩
      · exact .inl h1
    · exact .inr ⟨e', List.mem_cons_of_mem _ h1, h2⟩

theorem pairs_at {r : Rec} {m : Nat} : ∀ (pre : List Rec) (k0 : Nat), pairsOk ops r m k0 pre = true → ∀ (k : Nat) x, pre[k]? = some x → m.testBit (k0 + k) = true ∨ Indep ops x r
  | y :: pre, k0, h, k, x, hk => by
    simp only [pairsOk, Bool.and_eq_true, Bool.or_eq_true] at h
    cases k with
    | zero =>
      simp only [List.getElem?_cons_zero, Option.some.injEq] at hk
      subst hk
      exact h.1.imp id indep_ok
    | succ k =>
      have := pairs_at pre (k0 + 1) h.2 k x (by simpa using hk)
      rwa [Nat.add_assoc, Nat.add_comm 1 k] at this
  | [], _, _, k, x, hk => by simp at hk

theorem ordK_ok (hidx : ∀ (i : Nat) r, ∀ L : List Rec, ops.toList = L.map (·.o) → L[i]? = some r → ops[i]? = some r.o) : ∀ (post pre : List Rec) (ms : List Nat), ops.toList = (pre ++ post).map (·.o) → ordK ops post pre.length pre ms = true → ms.length = pre.length →
    (∀ (i : Nat), i < ms.length → ∀ k, (ms.getD i 0).testBit k = true → ∀ sel, Closed ops sel → (∀ o, ops[i]? = some o → ∀ e ∈ o.after, Region.binds .any e = true → sel e.on = true) → sel k = true) →
    (∀ (i : Nat) r, pre.length ≤ i → (pre ++ post)[i]? = some r → ∀ e ∈ r.o.after, Region.binds .any e = true → e.on < i) ∧
    (∀ (k i : Nat) x r, k < i → pre.length ≤ i → (pre ++ post)[k]? = some x → (pre ++ post)[i]? = some r → Indep ops x r ∨ ∀ sel, Closed ops sel → (∀ o, ops[i]? = some o → ∀ e ∈ o.after, Region.binds .any e = true → sel e.on = true) → sel k = true)
  | [], pre, ms, hl, h, hm, hms => by
    have none : ∀ (i : Nat) r, pre.length ≤ i → ¬ (pre ++ [])[i]? = some r := fun i r hi hr => by
      rw [List.append_nil, List.getElem?_eq_none hi] at hr; cases hr
    exact ⟨fun i r hi hr => absurd hr (none i r hi), fun k i x r _ hi _ hr => absurd hr (none i r hi)⟩
  | r0 :: post, pre, ms, hl, h, hm, hms => by
    simp only [ordK, Bool.and_eq_true] at h
    obtain ⟨h1, h2, h3⟩ := h
    have e1 : pre ++ r0 :: post = (pre ++ [r0]) ++ post := by simp
    have at0 : ops[pre.length]? = some r0.o := hidx pre.length r0 _ hl (by simp)
    have hmask : ∀ k, (maskOf r0.o ms).testBit k = true → ∀ sel, Closed ops sel → (∀ o, ops[pre.length]? = some o → ∀ e ∈ o.after, Region.binds .any e = true → sel e.on = true) → sel k = true := by
      intro k hk sel hc he
      rcases mask_bit _ 0 hk with h4 | ⟨e, h4, h5, h6⟩
      · simp at h4
      · have h4' : e ∈ r0.o.after := by simpa using h4
        have hs := he _ at0 e h4' h5
        rcases h6 with rfl | h6
        · exact hs
        · rcases Nat.lt_or_ge e.on ms.length with h7 | h7
          · exact hms e.on h7 k h6 sel hc (fun o ho e' he' hb => hc e.on o ho hs e' he' hb)
          · rw [List.getD_eq_getElem?_getD, List.getElem?_eq_none h7] at h6
            simp at h6
    obtain ⟨g1, g2⟩ := ordK_ok hidx post (pre ++ [r0]) (ms ++ [maskOf r0.o ms]) (by rw [← e1]; exact hl) (by simpa using h3) (by simp [hm]) (fun i hi k hk => by
      rcases Nat.lt_or_ge i ms.length with h4 | h4
      · rw [List.getD_eq_getElem?_getD, List.getElem?_append_left h4, ← List.getD_eq_getElem?_getD] at hk
        exact hms i h4 k hk
      · have : i = ms.length := by simp at hi; omega
        subst this
        rw [List.getD_eq_getElem?_getD, List.getElem?_append_right (Nat.le_refl _)] at hk
        simp only [Nat.sub_self, List.getElem?_cons_zero, Option.getD_some] at hk
        rw [hm]
        exact hmask k hk)
    rw [e1]
    refine ⟨fun i r hi hr => ?_, fun k i x r hk hi hx hr => ?_⟩
    · rcases Nat.lt_or_ge pre.length i with h4 | h4
      · exact g1 i r (by simp; omega) hr
      · have : i = pre.length := by omega
        subst this
        have : r = r0 := by simpa using hr.symm
        subst this
        intro e he hb
        have := List.all_eq_true.1 h1 e (by simpa using he)
        simpa [hb] using this
    · rcases Nat.lt_or_ge pre.length i with h4 | h4
      · exact g2 k i x r hk (by simp; omega) hx hr
      · have : i = pre.length := by omega
        subst this
        have : r = r0 := by simpa using hr.symm
        subst this
        rw [← e1, List.getElem?_append_left hk] at hx
        rcases pairs_at pre 0 h2 k x hx with h5 | h5
        · rw [Nat.zero_add] at h5
          exact .inr (hmask k h5)
        · exact .inl h5
end

/-! ### Code -/
inductive Sig where
  | normal
  | exit (id : Nat)
  | ret

def loopN (f : St → Kw → (Sig → St → Kw → Tr) → Tr) : Nat → St → Kw → (Sig → St → Kw → Tr) → Tr
  | 0, _, _, _ => .stuck 73
  | n + 1, s, kw, k => f s kw fun sg s kw => match sg with
    | .normal => loopN f n s kw k
    | sg => k sg s kw
/-- The number of a code's first region. -/
def fid : Code → Option Nat
  | .region id _ _ => some id
  | .seq a b => (match fid a with | some i => some i | none => fid b)
  | .block _ c => fid c
  | .loop c => fid c
  | .cond _ x y => (match fid x with | some i => some i | none => fid y)
  | _ => none
def hintOf (c : Code) (l : List (Nat × List Pl)) : Option (Nat × List Pl) := match fid c with
  | some i => (lookN i l).map (i, ·)
  | none => none
def Kw.head (kw : Kw) (vks : List VK) : Kw := ⟨kw.pc.filter fun p => p.1.sc kw.vk.length, [], kw.vk ++ vks, kw.lv + 1⟩
def nextK (cx : Cx) (lv v0 : Nat) (vks : List VK) (hd : St) (h0 : Nat) (pls : List Pl) (s : St) (kw : Kw) : Tr := match argL pls s with
  | some (θ, ex) => if Mt.ok ⟨v0, vks, θ, h0, ex, hd.heap⟩ cx kw.vk hd.tmps s then .next lv (argE vks θ) else .stuck 110
  | none => .stuck 111

/-! ### Calls in place -/
/-- How a call is run in place: the function, its arguments; what it comes to. -/
abbrev ClK := Nat → List V → St → Kw → (V → St → Kw → Tr) → Tr
def isBar (cx : Cx) (o : Oper) : Bool := match o.op with
  | .next _ false => true
  | .call c => (match cx.fns with
    | [] => false
    | _ :: _ => match c.callee with
      | .value (.func g) => !(cx.sm.any fun s => Nat.beq s.f g)
      | .value (.tmp _) => true
      | _ => false)
  | _ => false
def enumF : Nat → List Oper → List (Nat × Oper)
  | _, [] => []
  | i, o :: l => (i, o) :: enumF (i + 1) l
def firstBar (cx : Cx) : List (Nat × Oper) → Option (Nat × Oper)
  | [] => none
  | p :: l => if isBar cx p.2 then some p else firstBar cx l
def masksOf (ops : Array Oper) : List Nat := ops.toList.foldl (fun ms o => ms ++ [maskOf o ms]) []
def capV : Option (Bool × Nat × Nat) → V
  | none => .one .nilp
  | some (true, b, o) => .one (.ptr b o)
  | some (false, b, o) => .one (.fp b o)
def inlK (cl : ClK) (o : Oper) (g : Nat) (args : List V) (s : St) (kw : Kw) (k : St → Kw → Tr) : Tr :=
  cl g args s kw fun v s' kw' => match o.dst with
    | none => k s' kw'
    | some d => if Nat.blt d s'.n then k ⟨s'.tmps.set d v, s'.heap, s'.n⟩ kw' else .stuck 60
def hasSm (cx : Cx) (s : St) (kw : Kw) (o : Oper) : Bool :=
  match o.op with
  | .call c => match c.callee with
    | .value f => match evS s.n s.tmps f, evL (evS s.n s.tmps) c.args.toList with
      | some (.one (.fn g)), some args => (findSm kw.vk (s.vw cx) g args cx.sm).isSome
      | _, _ => false
    | _ => false
  | _ => false
/-! ### An entry of a map, whichever comes -/
def nextE (sl n : E) (v : Nat) : E := .and (.not (.lt (.var v) (.lit 0))) (.and (.lt (.var v) n) (.not (.lt (.mix sl (.cons (.var v) .nil)) (mkLen sl))))
def selfM (s : St) (kw : Kw) : Mt := ⟨kw.vk.length, [], [], s.heap.length, [], s.heap⟩
def anyK (cx : Cx) (o : Oper) (id mid : Nat) (s : St) (kw : Kw) (k : St → Kw → Tr) : Tr :=
  match rwS s.heap id, rwS s.heap mid with
  | some q, some r => match q.kd, r.kd with
    | .it _ n, .map nk ka va =>
      if (n.same (mkLen r.l) && (decide (nk ≤ r.ks.length) && ((ka || Nat.beq nk 1) && (va || Nat.beq (r.ks.drop nk).length 1)))) && Mt.ok (selfM s kw) cx kw.vk s.tmps s then
        decK (mkLt (mkLen q.l) n) (fun b kw => if b then
          .any kw.vk.length (nextE q.l n kw.vk.length) (match s.app o.dst { val := .tup [(false, [.bool (.tt true)]), (ka, rowCs r.l (.var kw.vk.length) 0 (r.ks.take nk)), (va, rowCs r.l (.var kw.vk.length) nk (r.ks.drop nk))], re := .set id { q with l := .lapp q.l (.cons (.var kw.vk.length) .nil) } } with
            | some s' => k s' (kw.head [.int .i64])
            | none => .stuck 60)
        else match s.app o.dst { val := .tup [(false, [.bool (.tt false)])] } with
          | some s' => k s' kw
          | none => .stuck 60) kw
      else .stuck 155
    | _, _ => .stuck 156
  | _, _ => .stuck 157
def goK (cl : ClK) (cx : Cx) (o : Oper) (s : St) (kw : Kw) (k : St → Kw → Tr) : Tr :=
  match o.op with
  | .call c => match c.callee with
    | .value f => match evS s.n s.tmps f, evL (evS s.n s.tmps) c.args.toList with
      | some (.one (.fn g)), some args => inlK cl o g args s kw k
      | some (.one (.clo g fs ps)), some args => inlK cl o g (fs.map capV ++ args ++ ps.map capV) s kw k
      | _, _ => .stuck 123
    | _ => .stuck 124
  | .next x false => match evS s.n s.tmps x with
    | some (.one (.itp id mid)) => anyK cx o id mid s kw k
    | _ => .stuck 158
  | _ => .stuck 125
def skipK (o : Oper) (s : St) (kw : Kw) (k : St → Kw → Tr) : Tr := match s.app o.dst { val := .one .undef } with
  | some s' => k s' kw
  | none => .stuck 60
def barK (cl : ClK) (cx : Cx) (ops : Array Oper) (o : Oper) (s : St) (kw : Kw) (k : St → Kw → Tr) : Tr :=
  if hasSm cx s kw o then opsK cx ops [o] s kw fun _ s kw => k s kw else
  match o.guard with
  | none => goK cl cx o s kw k
  | some (g, b) => match ((ops[g]?).bind (·.dst)).bind (fun t => if Nat.blt t s.n then s.tmps[t]? else none) with
    | some (.one (.bool e)) => decK e (fun x kw => if x == b then goK cl cx o s kw k else skipK o s kw k) kw
    | some (.one .undef) => skipK o s kw k
    | _ => .stuck 61
/-- Operations in the order of the text. -/
def regS (cl : ClK) (cx : Cx) (ops : Array Oper) : List Oper → St → Kw → (St → Kw → Tr) → Tr
  | [], s, kw, k => k s kw
  | o :: l, s, kw, k => if isBar cx o then barK cl cx ops o s kw fun s kw => regS cl cx ops l s kw k
    else opsK cx ops [o] s kw fun _ s kw => regS cl cx ops l s kw k
def floatB (cx : Cx) (ops : Array Oper) (i : Nat) (o : Oper) : Bool :=
  o.guard.isNone && ((match o.op with
    | .move _ => true
    | .assign _ => true
    | .fieldAddr s _ f => (match lookN s cx.ty with
      | some i => (i.fields[f]?).isSome
      | none => false)
    | _ => false) && (Region.noSelect ops && Region.free .any ops (Array.replicate ops.size false) i))
def bitOf (ms : List Nat) (i k : Nat) : Bool := (ms.getD i 0).testBit k
def pairsI (ops : Array Oper) (ms : List Nat) (p : Nat × Rec) : List (Nat × Rec) → Bool
  | [] => true
  | q :: l => (bitOf ms p.1 q.1 || indep ops q.2 p.2) && pairsI ops ms p l
def segPairs (ops : Array Oper) (ms : List Nat) : List (Nat × Rec) → List (Nat × Rec) → Bool
  | _, [] => true
  | pre, p :: l => pairsI ops ms p pre && segPairs ops ms (pre ++ [p]) l
def segOk (cx : Cx) (ops : Array Oper) (ms : List Nat) (L : List (Nat × Rec)) (outs : List (Nat × Oper)) : Bool :=
  segPairs ops ms [] L && ((L.all fun p => p.2.o.after.toList.all fun e => !Region.binds .any e || (Nat.blt e.on p.1 && (outs.all fun q => !Nat.beq q.1 e.on))) &&
    (outs.all fun q => L.all fun p => bitOf ms q.1 p.1 || floatB cx ops p.1 p.2.o))
def backOk (ops : Array Oper) : Bool := (enumF 0 ops.toList).all fun p => p.2.after.toList.all fun e => !Region.binds .any e || Nat.blt e.on p.1
/-- Operations in whatever order they come, about calls in place. -/
def regD (cl : ClK) (cx : Cx) (ops : Array Oper) (ms : List Nat) : Nat → List (Nat × Oper) → St → Kw → (St → Kw → Tr) → Tr
  | 0, _, _, _, _ => .stuck 126
  | m + 1, todo, s, kw, k => match firstBar cx todo with
    | none => opsK cx ops (todo.map (·.2)) s kw fun rs s' kw' => if segOk cx ops ms ((todo.map (·.1)).zip rs) [] then k s' kw' else .stuck 70
    | some (ci, co) =>
      let A := todo.filter fun p => !Nat.beq p.1 ci && !bitOf ms p.1 ci
      let B := todo.filter fun p => bitOf ms p.1 ci && !Nat.beq p.1 ci
      opsK cx ops (A.map (·.2)) s kw fun rs s' kw' => if segOk cx ops ms ((A.map (·.1)).zip rs) ((ci, co) :: B) then
          barK cl cx ops co s' kw' fun s kw => regD cl cx ops ms m B s kw k
        else .stuck 127

def codeK (cl : ClK) (cx : Cx) (fuel : Nat) : Code → St → Kw → (Sig → St → Kw → Tr) → Tr
  | .skip, s, kw, k => k .normal s kw
  | .label _, s, kw, k => k .normal s kw
  | .region _ ops draw, s, kw, k => match firstBar cx (enumF 0 ops.toList) with
    | none => opsK cx ops ops.toList s kw fun rs s' kw' =>
      if draw then (if ordK ops rs 0 [] [] then k .normal s' kw' else .stuck 70) else k .normal s' kw'
    | some _ => if draw then if backOk ops then regD cl cx ops (masksOf ops) (ops.size + 1) (enumF 0 ops.toList) s kw (k .normal) else .stuck 128 else regS cl cx ops ops.toList s kw (k .normal)
  | .seq a b, s, kw, k => match hintOf b cx.cuts with
    | none => codeK cl cx fuel a s kw fun sg s kw => match sg with
      | .normal => codeK cl cx fuel b s kw k
      | sg => k sg s kw
    | some (id, pls) => match pls with
      | [.ask] => codeK cl cx fuel a s kw fun sg s kw => match sg with
        | .normal => .at id s
        | sg => k sg s kw
      | pls => match absL kw.vk.length pls (s, []) with
        | some (hd, vks) => .cut kw.lv kw.vk.length vks
            (codeK cl cx fuel a s { kw with lv := kw.lv + 1 } fun sg s' kw' => match sg with
              | .normal => nextK cx kw.lv kw.vk.length vks hd s.heap.length pls s' kw'
              | sg => k sg s' kw')
            (codeK cl cx fuel b hd (kw.head vks) k)
        | none => .stuck 114
  | .cond c x y, s, kw, k => match evS s.n s.tmps c with
    | some (.one (.bool e)) => decK e (fun t kw => if t then codeK cl cx fuel x s kw k else codeK cl cx fuel y s kw k) kw
    | _ => .stuck 71
  | .block id c, s, kw, k => codeK cl cx fuel c s kw fun sg s kw => match sg with
    | .exit i => if Nat.beq i id then k .normal s kw else k (.exit i) s kw
    | sg => k sg s kw
  | .loop c, s, kw, k => match hintOf c cx.hints with
    | none => loopN (codeK cl cx fuel c) fuel s kw k
    | some (id, pls) => match pls with
      | [.ask] => .at id s
      | pls => match absL kw.vk.length pls (s, []), argL pls s with
        | some (hd, vks), some (θ, ex) =>
          if Mt.ok ⟨kw.vk.length, vks, θ, s.heap.length, ex, hd.heap⟩ cx kw.vk hd.tmps s then
            .loop kw.lv kw.vk.length vks (argE vks θ) (codeK cl cx fuel c hd (kw.head vks) fun sg s' kw' => match sg with
              | .normal => nextK cx kw.lv kw.vk.length vks hd s.heap.length pls s' kw'
              | sg => k sg s' kw')
          else .stuck 112
        | _, _ => .stuck 113
  | .exit id, s, kw, k => k (.exit id) s kw
  | .ret, s, kw, k => k .ret s kw
  | _, _, _, _ => .stuck 72

def Sig.exit' : Sig → Exit
  | .normal => .normal
  | .exit id => .exit id
  | .ret => .ret

section
variable {P : Program} {sp : Spec} {ρ : Env} {G : Env → E → Prop} {I : Nat → List Dt → Prop} {cx : Cx} {n : Nat} {X : List Value} {W0 : World}

/-- A state of the run and one of the machine. -/
structure At (cx : Cx) (ρ : Env) (n : Nat) (X : List Value) (W0 : World) (s : St) (j : J) (a : Act) (w : World) : Prop where
  rel : Rel ρ n X W0 cx.fbs s.fs j a w
  len : s.tmps.length = n + X.length
  own : s.n = n

theorem idx_of {ops : Array Oper} (i : Nat) (r : Rec) (L : List Rec) (hl : ops.toList = L.map (·.o)) (hi : L[i]? = some r) : ops[i]? = some r.o := by
  rw [← Array.getElem?_toList, hl, List.getElem?_map, hi]; rfl

theorem absP_len {v0 : Nat} {p : Pl} {x y : St × List VK} (h : absP v0 p x = some y) : y.1.tmps.length = x.1.tmps.length ∧ y.1.n = x.1.n := by
  unfold absP at h
  cases p <;> dsimp only at h <;> first
    | (split at h <;> first | (cases h; simp) | cases h)
    | (rw [Option.map_eq_some_iff] at h; obtain ⟨_, _, rfl⟩ := h; exact ⟨rfl, rfl⟩)
    | (cases h; exact ⟨onlyV_length _ _ _, rfl⟩)
    | cases h
theorem absL_len {v0 : Nat} : ∀ {l : List Pl} {x y : St × List VK}, absL v0 l x = some y → y.1.tmps.length = x.1.tmps.length ∧ y.1.n = x.1.n
  | [], x, y, h => by cases h; exact ⟨rfl, rfl⟩
  | p :: l, x, y, h => by
    simp only [absL, Option.bind_eq_some_iff] at h
    obtain ⟨z, h1, h2⟩ := h
    rw [(absL_len h2).1, (absL_len h2).2, (absP_len h1).1, (absP_len h1).2]
    exact ⟨rfl, rfl⟩

theorem head_good {ρ' : Env} {kw : Kw} {vks : List VK} (hg : Good sp cx.sm ρ kw) (ha : Ag kw.vk.length ρ ρ') (hd : okDs vks (varsD ρ' kw.vk.length vks)) : Good sp cx.sm ρ' (kw.head vks) := by
  refine ⟨fun p hp => ?_, ?_, fun p hp => by cases hp⟩
  · have h1 := List.mem_filter.1 hp
    rw [← (E.sc_eq ha p.1 (by simpa using h1.2)).2.1]
    exact hg.pc p h1.1
  · have key : ∀ (vks : List VK) (n : Nat), okDs vks (varsD ρ' n vks) → (∀ (i : Nat) k, vks[i]? = some (.int k) → inK k (ρ'.i (n + i)) = true) ∧ ∀ (i : Nat) ks, vks[i]? = some (.list ks) → RowsIn ks (ρ'.l (n + i)) := by
      intro vks
      induction vks with
      | nil => intro n _; exact ⟨fun i k h => by simp at h, fun i k h => by simp at h⟩
      | cons x l ih =>
        intro n h
        obtain ⟨h1, h2⟩ := h
        obtain ⟨i1, i2⟩ := ih (n + 1) h2
        refine ⟨fun i k hk => ?_, fun i ks hk => ?_⟩
        · cases i with
          | zero => simp at hk; subst hk; exact h1
          | succ i =>
            have := i1 i k (by simpa using hk)
            rwa [show n + (i + 1) = n + 1 + i by omega]
        · cases i with
          | zero => simp at hk; subst hk; exact h1
          | succ i =>
            have := i2 i ks (by simpa using hk)
            rwa [show n + (i + 1) = n + 1 + i by omega]
    obtain ⟨k1, k2⟩ := key vks _ hd
    constructor
    · intro i k hk
      rcases Nat.lt_or_ge i kw.vk.length with hlt | hge
      · simp only [Kw.head] at hk
        rw [List.getElem?_append_left hlt] at hk
        rw [← (ha i hlt).1]; exact hg.vk.i i k hk
      · simp only [Kw.head] at hk
        rw [List.getElem?_append_right hge] at hk
        have := k1 _ k hk
        rwa [show kw.vk.length + (i - kw.vk.length) = i by omega] at this
    · intro i k hk
      rcases Nat.lt_or_ge i kw.vk.length with hlt | hge
      · simp only [Kw.head] at hk
        rw [List.getElem?_append_left hlt] at hk
        rw [← (ha i hlt).2.2]; exact hg.vk.l i k hk
      · simp only [Kw.head] at hk
        rw [List.getElem?_append_right hge] at hk
        have := k2 _ k hk
        rwa [show kw.vk.length + (i - kw.vk.length) = i by omega] at this

/-- A head's states at given numbers. -/
def HeadAt (cx : Cx) (n : Nat) (X : List Value) (W0 : World) (ρ : Env) (v0 : Nat) (vks : List VK) (hd : St) (ds : List Dt) (a : Act) (w : World) : Prop :=
  ∃ j, ∀ ρ', Ag v0 ρ ρ' → varsD ρ' v0 vks = ds → At cx ρ' n X W0 hd j a w
theorem match_head {ρ2 : Env} {v0 : Nat} {vks : List VK} {θ : List E} {h0 : Nat} {ex : List (Option Nat)} {hd s : St} {vk : List VK} {j : J} {a : Act} {w : World} (hok : Mt.ok ⟨v0, vks, θ, h0, ex, hd.heap⟩ cx vk hd.tmps s = true) (hv : Vk ρ2 vk) (hl : hd.tmps.length = n + X.length ∧ hd.n = n) (ha : Ag v0 ρ ρ2) (hr : At cx ρ2 n X W0 s j a w) :
    okDs vks ((argE vks θ).D ρ2) ∧ HeadAt cx n X W0 ρ v0 vks hd ((argE vks θ).D ρ2) a w := by
  obtain ⟨h1, h2⟩ := match_okDs hok hv hr.rel
  refine ⟨h2, _, fun ρ3 h3 h4 => ⟨match_rel hok (giv_of (ha.symm.trans h3) h1 h4) hr.rel, hl.1, hl.2⟩⟩
/-- The end of a round. -/
theorem nextK_ok {ρ2 : Env} {lv v0 : Nat} {vks : List VK} {h0 : Nat} {pls : List Pl} {hd s : St} {kw : Kw} {j : J} {a : Act} {w : World} (h : (nextK cx lv v0 vks hd h0 pls s kw).holds sp G ρ2 I) (hv : Vk ρ2 kw.vk) (hl : hd.tmps.length = n + X.length ∧ hd.n = n) (ha : Ag v0 ρ ρ2) (hr : At cx ρ2 n X W0 s j a w) :
    ∃ ds, I lv ds ∧ okDs vks ds ∧ HeadAt cx n X W0 ρ v0 vks hd ds a w := by
  unfold nextK at h
  split at h
  · split at h
    · rename_i hok
      obtain ⟨h1, h2⟩ := match_head hok hv hl ha hr
      exact ⟨_, h, h1, h2⟩
    · exact h.elim
  · exact h.elim

/-- A call in place is sound. -/
def CallOk (P : Program) (sp : Spec) (G : Env → E → Prop) (cx : Cx) (cl : ClK) : Prop :=
  ∀ (g : Nat) (args : List V) (s : St) (kw : Kw) (k : V → St → Kw → Tr) (R : Value → World → Prop) (ρ : Env) (I : Nat → List Dt → Prop) (n : Nat) (X : List Value) (W0 : World) (j : J) (a : Act) (w : World) (vals : List Value),
    (cl g args s kw k).holds sp G ρ I → Good sp cx.sm ρ kw → At cx ρ n X W0 s j a w → vals.length = args.length → (∀ (i : Nat) x, args[i]? = some x → ∃ u, vals[i]? = some u ∧ x.den ρ j = some u) →
    (∀ v s' kw' ρ' I' j' w' u, (k v s' kw').holds sp G ρ' I' → Good sp cx.sm ρ' kw' → Ag kw.vk.length ρ ρ' → (∀ m, m < kw.lv → I' m = I m) → kw.lv ≤ kw'.lv → kw.vk.length ≤ kw'.vk.length → v.den ρ' j' = some u → At cx ρ' n X W0 s' j' a w' → R u w') →
    (callFunc g vals.toArray).run P w = .ok (.enter g vals.toArray) w ∧ Calls P g vals.toArray w fun e w' => ∃ u, e = .returned u ∧ R u w'
/-- What follows. -/
structure Nx (kw kw' : Kw) (ρ ρ' : Env) (I I' : Nat → List Dt → Prop) : Prop where
  ag : Ag kw.vk.length ρ ρ'
  inv : ∀ m, m < kw.lv → I' m = I m
  lv : kw.lv ≤ kw'.lv
  vk : kw.vk.length ≤ kw'.vk.length
theorem Nx.refl (kw : Kw) (ρ : Env) (I : Nat → List Dt → Prop) : Nx kw kw ρ ρ I I := ⟨.refl _ _, fun _ _ => rfl, Nat.le_refl _, Nat.le_refl _⟩
theorem Nx.of {kw kw' : Kw} (h : KwGe kw' kw) (ρ : Env) (I : Nat → List Dt → Prop) : Nx kw kw' ρ ρ I I := ⟨.refl _ _, fun _ _ => rfl, by rw [h.lv]; exact Nat.le_refl _, h.vk⟩
theorem Nx.trans {a b c : Kw} {ρ ρ' ρ'' : Env} {I I' I'' : Nat → List Dt → Prop} (h : Nx a b ρ ρ' I I') (h' : Nx b c ρ' ρ'' I' I'') : Nx a c ρ ρ'' I I'' :=
  ⟨h.ag.trans (h'.ag.mono h.vk), fun m hm => (h'.inv m (Nat.lt_of_lt_of_le hm h.lv)).trans (h.inv m hm), Nat.le_trans h.lv h'.lv, Nat.le_trans h.vk h'.vk⟩
end
end Go.Proofs.Ytgfghplnankgnaa

