/- Texts SyI, SyJ, SyK, SyL, SyM, SyN, SyO, SyP, SyQ in one. -/
import Derived.Test.YtcfnglbcgkappaaGreatSyZb
import Derived.Orders
import Derived.LoopN
import Derived.DeepKeys
import Derived.ChangeSlices
import Derived.ChangeSame
import Derived.ChangeArms
import Derived.Deep.Slices
/- A region of operations in whatever order it draws: the run in the order of the text tells what every other one comes to. Nothing of the program is in here. -/
set_option linter.unusedVariables false
set_option linter.unusedSimpArgs false
namespace Go.Proofs.YtcfnglbcgkappaaGreat
open Go.RowKit

structure Rec where
  o : Oper
  want : Bool
  nid : Nat
  eff : Eff

def FS.rec' (F : FS) (r : Rec) : FS := F.app r.o.dst r.nid r.eff
def opTs : List Operand → List Nat
  | [] => []
  | .tmp t :: l => t :: opTs l
  | _ :: l => opTs l
theorem opTs_mem {t : Nat} : ∀ {l : List Operand}, .tmp t ∈ l → t ∈ opTs l
  | x :: l, h => by
    rcases List.mem_cons.1 h with rfl | h
    · exact List.mem_cons_self
    · have ih := opTs_mem h
      cases x with
      | tmp u => exact List.mem_cons_of_mem _ ih
      | _ => exact ih
def gTs (ops : Array Oper) (o : Oper) : List Nat :=
  match o.guard with
  | none => []
  | some (g, _) => ((ops[g]?).bind (·.dst)).toList
def Rec.ts (ops : Array Oper) (r : Rec) : List Nat := opTs r.o.op.operands.toList ++ gTs ops r.o

def hasN (t : Nat) : List Nat → Bool
  | [] => false
  | x :: l => Nat.beq x t || hasN t l
def hasP (b o : Nat) : List (Nat × Nat) → Bool
  | [] => false
  | (x, y) :: l => (Nat.beq x b && Nat.beq y o) || hasP b o l
theorem hasN_iff {t : Nat} {l : List Nat} : hasN t l = false ↔ t ∉ l := by
  induction l with
  | nil => simp [hasN]
  | cons x l ih =>
    simp only [hasN, Bool.or_eq_false_iff, ih, List.mem_cons, not_or]
    constructor
    · rintro ⟨h1, h2⟩
      exact ⟨fun e => by rw [e] at h1; simp at h1, h2⟩
    · rintro ⟨h1, h2⟩
      refine ⟨?_, h2⟩
      cases h : x.beq t
      · rfl
      · exact absurd (Nat.eq_of_beq_eq_true h).symm h1
theorem hasP_iff {b o : Nat} {l : List (Nat × Nat)} : hasP b o l = false ↔ (b, o) ∉ l := by
  induction l with
  | nil => simp [hasP]
  | cons x l ih =>
    obtain ⟨x, y⟩ := x
    simp only [hasP, Bool.or_eq_false_iff, ih, List.mem_cons, not_or, Bool.and_eq_false_iff]
    constructor
    · rintro ⟨h1, h2⟩
      refine ⟨fun e => ?_, h2⟩
      cases e
      rcases h1 with h1 | h1 <;> simp at h1
    · rintro ⟨h1, h2⟩
      refine ⟨?_, h2⟩
      cases h : x.beq b
      · exact .inl rfl
      · cases h' : y.beq o
        · exact .inr rfl
        · exact absurd (by rw [Nat.eq_of_beq_eq_true h, Nat.eq_of_beq_eq_true h']) h1

def wrC (l : List (Nat × Nat × C)) : List (Nat × Nat) := l.map fun p => (p.1, p.2.1)
def Rec.rid (r : Rec) : List Nat := (r.eff.re.rs r.nid).map (·.1)
def Rec.touch (r : Rec) : List Nat := r.eff.rd.map (·.1) ++ r.eff.wr.map (·.1)
def Rec.alid (r : Rec) : List Nat := match r.eff.al with | some _ => [r.nid] | none => []
/-- Neither minds whether the other one has been. -/
def indep (ops : Array Oper) (r s : Rec) : Bool :=
  (r.o.dst.toList.all fun d => !hasN d (s.ts ops) && !hasN d s.o.dst.toList) && (s.o.dst.toList.all fun d => !hasN d (r.ts ops)) &&
  ((wrC r.eff.wr).all fun p => !hasP p.1 p.2 s.eff.rd && !hasP p.1 p.2 (wrC s.eff.wr)) && ((wrC s.eff.wr).all fun p => !hasP p.1 p.2 r.eff.rd) &&
  (r.alid.all fun b => !hasN b s.touch && !hasN b s.alid) && (s.alid.all fun b => !hasN b r.touch) &&
  (r.rid.all fun b => !hasN b s.eff.rr && !hasN b s.rid) && (s.rid.all fun b => !hasN b r.eff.rr)

structure Indep (ops : Array Oper) (r s : Rec) : Prop where
  d1 : ∀ d, r.o.dst = some d → d ∉ s.ts ops
  d2 : ∀ d, r.o.dst = some d → s.o.dst ≠ some d
  d3 : ∀ d, s.o.dst = some d → d ∉ r.ts ops
  w1 : ∀ p ∈ r.eff.wr, (p.1, p.2.1) ∉ s.eff.rd
  w2 : ∀ p ∈ r.eff.wr, ∀ q ∈ s.eff.wr, (p.1, p.2.1) ≠ (q.1, q.2.1)
  w3 : ∀ p ∈ s.eff.wr, (p.1, p.2.1) ∉ r.eff.rd
  a1 : r.eff.al ≠ none → r.nid ∉ s.touch
  a2 : r.eff.al ≠ none → s.eff.al ≠ none → r.nid ≠ s.nid
  a3 : s.eff.al ≠ none → s.nid ∉ r.touch
  r1 : ∀ b ∈ r.rid, b ∉ s.eff.rr
  r2 : ∀ b ∈ r.rid, b ∉ s.rid
  r3 : ∀ b ∈ s.rid, b ∉ r.eff.rr

theorem indep_ok {ops : Array Oper} {r s : Rec} (h : indep ops r s = true) : Indep ops r s := by
  simp only [indep, Bool.and_eq_true, List.all_eq_true, Bool.not_eq_true', hasN_iff, hasP_iff, Option.mem_toList] at h
  obtain ⟨⟨⟨⟨⟨⟨⟨h1, h2⟩, h3⟩, h4⟩, h5⟩, h6⟩, h7⟩, h8⟩ := h
  have hal : ∀ {x : Rec}, x.eff.al ≠ none → x.nid ∈ x.alid := fun {x} hx => by
    unfold Rec.alid
    split
    · simp
    · rename_i hn; exact absurd hn hx
  refine ⟨fun d hd => (h1 d hd).1, fun d hd => (h1 d hd).2, fun d hd => h2 d hd, fun p hp => (h3 _ (List.mem_map.2 ⟨p, hp, rfl⟩)).1, fun p hp q hq e => (h3 _ (List.mem_map.2 ⟨p, hp, rfl⟩)).2 (List.mem_map.2 ⟨q, hq, e.symm⟩),
    fun p hp => h4 _ (List.mem_map.2 ⟨p, hp, rfl⟩), fun hx => (h5 _ (hal hx)).1, fun hx hy e => (h5 _ (hal hx)).2 (e ▸ hal hy), fun hx => h6 _ (hal hx), fun b hb => (h7 b hb).1, fun b hb => (h7 b hb).2, h8⟩
theorem Indep.symm {ops : Array Oper} {r s : Rec} (h : Indep ops r s) : Indep ops s r :=
  ⟨h.d3, fun d hd e => h.d2 d e hd, h.d1, h.w3, fun p hp q hq e => h.w2 q hq p hp e.symm, h.w1, h.a3, fun hx hy e => h.a2 hy hx e.symm, h.a1, h.r3, fun b hb hb' => h.r2 b hb' hb, h.r1⟩

/-! ### Cells behind writes -/
theorem ldF_wr (F : FS) (p : Nat × Nat × C) (b o : Nat) : ldF (F.wr p) b o = if b = p.1 ∧ o = p.2.1 then (ldF F b o).map (fun _ => p.2.2) else ldF F b o := by
  unfold ldF FS.wr
  by_cases hb : b = p.1
  · simp only [hb, if_true, true_and]
    cases F.box p.1 with
    | none => simp
    | some x =>
      simp only [Option.map_some, Option.bind_some, List.getElem?_set]
      by_cases ho : o = p.2.1
      · subst ho
        simp only [if_true]
        split
        · rename_i hlt
          simp [List.getElem?_eq_getElem hlt]
        · rename_i hlt
          simp [List.getElem?_eq_none (Nat.le_of_not_lt hlt)]
      · rw [if_neg (fun e : p.2.1 = o => ho e.symm), if_neg ho]
  · simp [hb]
theorem ldF_wrs_other : ∀ {l : List (Nat × Nat × C)} {F : FS} {b o : Nat}, (∀ p ∈ l, (p.1, p.2.1) ≠ (b, o)) → ldF (F.wrs l) b o = ldF F b o
  | [], _, _, _, _ => rfl
  | p :: l, F, b, o, h => by
    have h1 := ldF_wrs_other (l := l) (F := F.wr p) (b := b) (o := o) (fun q hq => h q (List.mem_cons_of_mem _ hq))
    have h2 := h p List.mem_cons_self
    show ldF ((F.wr p).wrs l) b o = _
    rw [h1, ldF_wr, if_neg (fun e => h2 (by rw [e.1, e.2]))]
theorem ldF_wrs_congr : ∀ {l : List (Nat × Nat × C)} {F F' : FS} {b o : Nat}, ldF F b o = ldF F' b o → ldF (F.wrs l) b o = ldF (F'.wrs l) b o
  | [], _, _, _, _, h => h
  | p :: l, F, F', b, o, h => by
    show ldF ((F.wr p).wrs l) b o = ldF ((F'.wr p).wrs l) b o
    exact ldF_wrs_congr (by rw [ldF_wr, ldF_wr, h])
theorem ldF_wrs_some : ∀ {l : List (Nat × Nat × C)} {F : FS} {b o : Nat}, (ldF (F.wrs l) b o).isSome = (ldF F b o).isSome
  | [], _, _, _ => rfl
  | p :: l, F, b, o => by
    have h1 : (ldF ((F.wr p).wrs l) b o).isSome = _ := ldF_wrs_some (l := l)
    show (ldF ((F.wr p).wrs l) b o).isSome = _
    rw [h1, ldF_wr]
    split <;> simp
theorem ldF_new (F : FS) (nid : Nat) (x : List C × Nat) (b o : Nat) : ldF (F.new nid x) b o = if b = nid then x.1[o]? else ldF F b o := by
  unfold ldF FS.new
  by_cases h : b = nid <;> simp [h]
theorem ldF_put (F : FS) (d : Option Nat) (v : V) (b o : Nat) : ldF (F.put d v) b o = ldF F b o := rfl
theorem box_wrs_none : ∀ {l : List (Nat × Nat × C)} {F : FS} {b : Nat}, (F.wrs l).box b = none ↔ F.box b = none
  | [], _, _ => Iff.rfl
  | p :: l, F, b => by
    have h1 : ((F.wr p).wrs l).box b = none ↔ _ := box_wrs_none (l := l)
    show ((F.wr p).wrs l).box b = none ↔ _
    rw [h1]
    unfold FS.wr
    by_cases h : b = p.1 <;> simp [h]

/-! ### Agreement -/
structure Agree (ops : Array Oper) (r : Rec) (F F' : FS) : Prop where
  t : ∀ t ∈ r.ts ops, F.tmp t = F'.tmp t
  rd : ∀ p ∈ r.eff.rd, ldF F p.1 p.2 = ldF F' p.1 p.2
  wr : ∀ p ∈ r.eff.wr, (ldF F p.1 p.2.1).isSome = (ldF F' p.1 p.2.1).isSome
  nw : r.eff.al ≠ none → (F.box r.nid = none ↔ F'.box r.nid = none)
  row : ∀ b ∈ r.eff.rr ++ r.rid, F.row b = F'.row b

theorem tmp_app (F : FS) (d : Option Nat) (nid : Nat) (eff : Eff) (t : Nat) : (F.app d nid eff).tmp t = if d = some t then eff.val else F.tmp t := by
  unfold FS.app FS.put
  dsimp only
  by_cases h : d = some t
  · simp [h]
  · simp only [h, if_false]
    rw [(rws_box _ _).2]
    split
    · rfl
    · have : ∀ (l : List (Nat × Nat × C)) (F : FS), (F.wrs l).tmp = F.tmp := by
        intro l
        induction l with
        | nil => intro F; rfl
        | cons p l ih => intro F; exact ih (F.wr p)
      rw [this]
theorem ldF_rws (F : FS) (l : List (Nat × Option RowOb)) (b o : Nat) : ldF (F.rws l) b o = ldF F b o := by unfold ldF; rw [(rws_box l F).1]
theorem ldF_app (F : FS) (d : Option Nat) (nid : Nat) (eff : Eff) (b o : Nat) : ldF (F.app d nid eff) b o = match eff.al with | some x => if b = nid then x.1[o]? else ldF F b o | none => ldF (F.wrs eff.wr) b o := by
  unfold FS.app
  rw [ldF_put, ldF_rws]
  cases eff.al with
  | some x => exact ldF_new F nid x b o
  | none => rfl
theorem box_app_none (F : FS) (d : Option Nat) (nid : Nat) (eff : Eff) (b : Nat) : (F.app d nid eff).box b = none ↔ match eff.al with | some _ => b ≠ nid ∧ F.box b = none | none => F.box b = none := by
  unfold FS.app FS.put
  dsimp only
  rw [(rws_box _ _).1]
  cases eff.al with
  | some x =>
    unfold FS.new
    by_cases h : b = nid <;> simp [h]
  | none => exact box_wrs_none
theorem wrs_row : ∀ (l : List (Nat × Nat × C)) (F : FS), (F.wrs l).row = F.row
  | [], _ => rfl
  | p :: l, F => wrs_row l (F.wr p)
theorem rws_other : ∀ (l : List (Nat × Option RowOb)) (F : FS) (b : Nat), b ∉ l.map (·.1) → (F.rws l).row b = F.row b
  | [], _, _, _ => rfl
  | p :: l, F, b, h => by
    simp only [List.map_cons, List.mem_cons, not_or] at h
    have h1 := rws_other l (F.rw1 p) b h.2
    show ((F.rw1 p).rws l).row b = _
    rw [h1]
    simp [FS.rw1, h.1]
theorem rws_congr : ∀ (l : List (Nat × Option RowOb)) (F F' : FS) (b : Nat), F.row b = F'.row b → (F.rws l).row b = (F'.rws l).row b
  | [], _, _, _, h => h
  | p :: l, F, F', b, h => rws_congr l (F.rw1 p) (F'.rw1 p) b (by simp only [FS.rw1]; split <;> simp_all)
theorem row_app (F : FS) (d : Option Nat) (nid : Nat) (eff : Eff) : (F.app d nid eff).row = (F.rws (eff.re.rs nid)).row := by
  unfold FS.app FS.put
  dsimp only
  funext b
  apply rws_congr
  split
  · rfl
  · rw [wrs_row]

theorem Agree.refl (ops : Array Oper) (r : Rec) (F : FS) : Agree ops r F F := ⟨fun _ _ => rfl, fun _ _ => rfl, fun _ _ => rfl, fun _ => Iff.rfl, fun _ _ => rfl⟩
theorem Agree.trans {ops : Array Oper} {r : Rec} {F F' F'' : FS} (h : Agree ops r F F') (h' : Agree ops r F' F'') : Agree ops r F F'' :=
  ⟨fun t ht => (h.t t ht).trans (h'.t t ht), fun p hp => (h.rd p hp).trans (h'.rd p hp), fun p hp => (h.wr p hp).trans (h'.wr p hp), fun hx => (h.nw hx).trans (h'.nw hx), fun b hb => (h.row b hb).trans (h'.row b hb)⟩
theorem Agree.symm {ops : Array Oper} {r : Rec} {F F' : FS} (h : Agree ops r F F') : Agree ops r F' F :=
  ⟨fun t ht => (h.t t ht).symm, fun p hp => (h.rd p hp).symm, fun p hp => (h.wr p hp).symm, fun hx => (h.nw hx).symm, fun b hb => (h.row b hb).symm⟩
theorem Agree.congr {ops : Array Oper} {r s : Rec} {F F' : FS} (h : Agree ops r F F') : Agree ops r (F.rec' s) (F'.rec' s) := by
  unfold FS.rec'
  refine ⟨fun t ht => by rw [tmp_app, tmp_app, h.t t ht], fun p hp => ?_, fun p hp => ?_, fun hx => ?_, fun b hb => by rw [row_app, row_app]; exact rws_congr _ _ _ b (h.row b hb)⟩
  · rw [ldF_app, ldF_app]
    split
    · rw [h.rd p hp]
    · exact ldF_wrs_congr (h.rd p hp)
  · rw [ldF_app, ldF_app]
    split
    · split
      · rfl
      · exact h.wr p hp
    · rw [ldF_wrs_some, ldF_wrs_some]; exact h.wr p hp
  · rw [box_app_none, box_app_none]
    split
    · rw [h.nw hx]
    · exact h.nw hx
theorem Agree.step {ops : Array Oper} {r s : Rec} (hi : Indep ops s r) (F : FS) : Agree ops r F (F.rec' s) := by
  unfold FS.rec'
  refine ⟨fun t ht => ?_, fun p hp => ?_, fun p hp => ?_, fun hx => ?_, fun b hb => ?_⟩
  · rw [tmp_app, if_neg (fun e => hi.d1 t e ht)]
  · rw [ldF_app]
    split
    · rename_i x hal
      rw [if_neg (fun e => hi.a1 (by rw [hal]; simp) (by rw [← e]; exact List.mem_append_left _ (List.mem_map.2 ⟨p, hp, rfl⟩)))]
    · exact (ldF_wrs_other (fun q hq e => hi.w1 q hq (by rw [e]; exact hp))).symm
  · rw [ldF_app]
    split
    · rename_i x hal
      rw [if_neg (fun e => hi.a1 (by rw [hal]; simp) (by rw [← e]; exact List.mem_append_right _ (List.mem_map.2 ⟨p, hp, rfl⟩)))]
    · rw [ldF_wrs_some]
  · rw [box_app_none]
    split
    · rename_i x hal
      constructor
      · intro h; exact ⟨fun e => hi.a2 (by rw [hal]; simp) hx e.symm, h⟩
      · exact fun h => h.2
    · exact Iff.rfl
  · rw [row_app, rws_other]
    intro hm
    rcases List.mem_append.1 hb with hb | hb
    · exact hi.r1 b hm hb
    · exact hi.r2 b hm hb

/-! ### Two that mind each other not go either way -/
theorem wr_comm (F : FS) (p q : Nat × Nat × C) (h : (p.1, p.2.1) ≠ (q.1, q.2.1)) : (F.wr p).wr q = (F.wr q).wr p := by
  refine FS.ext' (fun _ => rfl) (fun b => ?_) (fun _ => rfl)
  unfold FS.wr
  dsimp only
  by_cases h1 : b = p.1
  · by_cases h2 : b = q.1
    · have hpq : p.1 = q.1 := h1.symm.trans h2
      have ho : p.2.1 ≠ q.2.1 := fun e => h (by rw [hpq, e])
      simp only [h1, hpq, if_true]
      cases F.box q.1 with
      | none => rfl
      | some x => simp [List.set_comm _ _ ho]
    · simp [h1, h2, show ¬ p.1 = q.1 from fun e => h2 (h1.trans e)]
  · by_cases h2 : b = q.1
    · simp [h1, h2, show ¬ q.1 = p.1 from fun e => h1 (h2.trans e)]
    · simp [h1, h2]
theorem wr_wrs (p : Nat × Nat × C) : ∀ (l : List (Nat × Nat × C)) (F : FS), (∀ q ∈ l, (p.1, p.2.1) ≠ (q.1, q.2.1)) → (F.wr p).wrs l = (F.wrs l).wr p
  | [], _, _ => rfl
  | q :: l, F, h => by
    show ((F.wr p).wr q).wrs l = ((F.wr q).wrs l).wr p
    rw [wr_comm F p q (h q List.mem_cons_self)]
    exact wr_wrs p l (F.wr q) (fun x hx => h x (List.mem_cons_of_mem _ hx))
theorem wrs_wrs : ∀ (l m : List (Nat × Nat × C)) (F : FS), (∀ p ∈ l, ∀ q ∈ m, (p.1, p.2.1) ≠ (q.1, q.2.1)) → (F.wrs l).wrs m = (F.wrs m).wrs l
  | [], _, _, _ => rfl
  | p :: l, m, F, h => by
    show ((F.wr p).wrs l).wrs m = ((F.wrs m).wr p).wrs l
    rw [wrs_wrs l m (F.wr p) (fun x hx => h x (List.mem_cons_of_mem _ hx)), wr_wrs p m F (h p List.mem_cons_self)]
theorem new_wrs (nid : Nat) (x : List C × Nat) : ∀ (l : List (Nat × Nat × C)) (F : FS), (∀ q ∈ l, q.1 ≠ nid) → (F.new nid x).wrs l = (F.wrs l).new nid x
  | [], _, _ => rfl
  | q :: l, F, h => by
    show ((F.new nid x).wr q).wrs l = ((F.wr q).wrs l).new nid x
    have h1 := h q List.mem_cons_self
    have : (F.new nid x).wr q = (F.wr q).new nid x := by
      refine FS.ext' (fun _ => rfl) (fun b => ?_) (fun _ => rfl)
      unfold FS.wr FS.new
      dsimp only
      by_cases hb : b = nid
      · simp [hb, show ¬ nid = q.1 from fun e => h1 e.symm]
      · simp [hb]
    rw [this]
    exact new_wrs nid x l (F.wr q) (fun y hy => h y (List.mem_cons_of_mem _ hy))
theorem put_wrs (d : Option Nat) (v : V) : ∀ (l : List (Nat × Nat × C)) (F : FS), (F.put d v).wrs l = (F.wrs l).put d v
  | [], _ => rfl
  | q :: l, F => put_wrs d v l (F.wr q)

theorem put_rws (d : Option Nat) (v : V) : ∀ (l : List (Nat × Option RowOb)) (F : FS), (F.put d v).rws l = (F.rws l).put d v
  | [], _ => rfl
  | q :: l, F => put_rws d v l (F.rw1 q)
theorem rws_wrs (l : List (Nat × Option RowOb)) (m : List (Nat × Nat × C)) (F : FS) : (F.rws l).wrs m = (F.wrs m).rws l := by
  refine FS.ext' (fun t => ?_) (fun b => ?_) (fun b => ?_)
  · have t1 : ∀ (m : List (Nat × Nat × C)) (F : FS), (F.wrs m).tmp = F.tmp := by
      intro m
      induction m with
      | nil => intro F; rfl
      | cons p m ih => intro F; exact ih (F.wr p)
    rw [t1, (rws_box l F).2, (rws_box l _).2, t1]
  · have b1 : ∀ (m : List (Nat × Nat × C)) (F F' : FS), F.box = F'.box → (F.wrs m).box = (F'.wrs m).box := by
      intro m
      induction m with
      | nil => intro F F' h; exact h
      | cons p m ih => intro F F' h; exact ih _ _ (by simp only [FS.wr, h])
    rw [(rws_box l _).1, b1 m (F.rws l) F (rws_box l F).1]
  · rw [wrs_row]
    exact rws_congr l F (F.wrs m) b (by rw [wrs_row])
theorem rws_new (l : List (Nat × Option RowOb)) (nid : Nat) (x : List C × Nat) (F : FS) : (F.rws l).new nid x = (F.new nid x).rws l := by
  refine FS.ext' (fun t => ?_) (fun b => ?_) (fun b => ?_)
  · rw [(rws_box l _).2]; exact congrFun (rws_box l F).2 t
  · rw [(rws_box l _).1]
    simp only [FS.new, (rws_box l F).1]
  · exact rws_congr l F (F.new nid x) b rfl
theorem rws_rws : ∀ (l m : List (Nat × Option RowOb)) (F : FS), (∀ b ∈ l.map (·.1), b ∉ m.map (·.1)) → (F.rws l).rws m = (F.rws m).rws l
  | l, m, F, h => by
    refine FS.ext' (fun t => ?_) (fun b => ?_) (fun b => ?_)
    · rw [(rws_box m _).2, (rws_box l _).2, (rws_box l _).2, (rws_box m _).2]
    · rw [(rws_box m _).1, (rws_box l _).1, (rws_box l _).1, (rws_box m _).1]
    · by_cases hl : b ∈ l.map (·.1)
      · rw [rws_other m _ b (h b hl)]
        exact rws_congr l F (F.rws m) b (rws_other m F b (h b hl)).symm
      · rw [rws_other l _ b hl]
        exact rws_congr m (F.rws l) F b (rws_other l F b hl)

/-- What is done to boxes. -/
def Rec.bx (r : Rec) (F : FS) : FS := match r.eff.al with | some x => F.new r.nid x | none => F.wrs r.eff.wr
theorem rec_eq (r : Rec) (F : FS) : F.rec' r = ((r.bx F).rws (r.eff.re.rs r.nid)).put r.o.dst r.eff.val := rfl
theorem bx_put (r : Rec) (d : Option Nat) (v : V) (F : FS) : r.bx (F.put d v) = (r.bx F).put d v := by
  unfold Rec.bx
  split
  · rfl
  · exact put_wrs d v _ F
theorem bx_rws (r : Rec) (l : List (Nat × Option RowOb)) (F : FS) : r.bx (F.rws l) = (r.bx F).rws l := by
  unfold Rec.bx
  split
  · exact rws_new l _ _ F
  · exact rws_wrs l _ F
theorem bx_comm {ops : Array Oper} {r s : Rec} (h : Indep ops r s) (F : FS) : s.bx (r.bx F) = r.bx (s.bx F) := by
  unfold Rec.bx
  cases hr : r.eff.al with
  | some x =>
    cases hs : s.eff.al with
    | some y =>
      refine FS.ext' (fun _ => rfl) (fun b => ?_) (fun _ => rfl)
      unfold FS.new
      dsimp only
      have hne := h.a2 (by rw [hr]; simp) (by rw [hs]; simp)
      by_cases h1 : b = s.nid <;> by_cases h2 : b = r.nid <;> simp [h1, h2]
      · exact absurd (h2.symm.trans h1) hne
      · intro e; exact absurd e.symm hne
      · intro e; exact absurd e hne
    | none =>
      have hq : ∀ q ∈ s.eff.wr, q.1 ≠ r.nid := fun q hq e => h.a1 (by rw [hr]; simp) (by rw [← e]; exact List.mem_append_right _ (List.mem_map.2 ⟨q, hq, rfl⟩))
      exact new_wrs _ _ _ F hq
  | none =>
    cases hs : s.eff.al with
    | some y =>
      have hq : ∀ q ∈ r.eff.wr, q.1 ≠ s.nid := fun q hq e => h.a3 (by rw [hs]; simp) (by rw [← e]; exact List.mem_append_right _ (List.mem_map.2 ⟨q, hq, rfl⟩))
      exact (new_wrs _ _ _ F hq).symm
    | none => exact wrs_wrs _ _ F h.w2
theorem rec_comm {ops : Array Oper} {r s : Rec} (h : Indep ops r s) (F : FS) : (F.rec' r).rec' s = (F.rec' s).rec' r := by
  have hp : ∀ F : FS, (F.put r.o.dst r.eff.val).put s.o.dst s.eff.val = (F.put s.o.dst s.eff.val).put r.o.dst r.eff.val := by
    intro F
    refine FS.ext' (fun t => ?_) (fun _ => rfl) (fun _ => rfl)
    unfold FS.put
    dsimp only
    by_cases h1 : s.o.dst = some t <;> by_cases h2 : r.o.dst = some t <;> simp [h1, h2]
    exact absurd h1 (h.d2 t h2)
  rw [rec_eq s, rec_eq r, rec_eq r, rec_eq s, bx_put, bx_rws, put_rws, hp, bx_comm h, rws_rws _ _ _ (fun b hb => h.r2 b hb), bx_put, bx_rws, put_rws]
end Go.Proofs.YtcfnglbcgkappaaGreat

/- A region of operations, in the order of the text or in whatever order it draws. Nothing of the program is in here. -/
set_option linter.unusedVariables false
set_option linter.unusedSimpArgs false
namespace Go.Proofs.YtcfnglbcgkappaaGreat
open Go.RowKit

def part (sel : Nat → Bool) : Nat → List Rec → FS → FS
  | _, [], F => F
  | i, r :: l, F => part sel (i + 1) l (if sel i then F.rec' r else F)
def full (l : List Rec) (F : FS) : FS := l.foldl FS.rec' F

section
variable {P : Program} {ρ : Env} {n : Nat} {W0 : World} {fb : Nat → Option (List C)} {ops : Array Oper}

theorem part_append (sel : Nat → Bool) : ∀ (l m : List Rec) (i : Nat) (F : FS), part sel i (l ++ m) F = part sel (i + l.length) m (part sel i l F)
  | [], m, i, F => rfl
  | r :: l, m, i, F => by
    simp only [List.cons_append, part, List.length_cons]
    rw [part_append sel l m (i + 1)]
    congr 1
    omega
theorem part_full {sel : Nat → Bool} : ∀ (l : List Rec) (i : Nat) (F : FS), (∀ m, m < l.length → sel (i + m) = true) → part sel i l F = full l F
  | [], _, _, _ => rfl
  | r :: l, i, F, h => by
    have h0 := h 0 (by simp)
    simp only [Nat.add_zero] at h0
    simp only [part, h0, if_true, full, List.foldl_cons]
    exact part_full l (i + 1) _ (fun m hm => by rw [Nat.add_assoc, Nat.add_comm 1 m]; exact h (m + 1) (by simpa using hm))
theorem part_none {sel : Nat → Bool} : ∀ (l : List Rec) (i : Nat) (F : FS), (∀ m, m < l.length → sel (i + m) = false) → part sel i l F = F
  | [], _, _, _ => rfl
  | r :: l, i, F, h => by
    have h0 := h 0 (by simp)
    simp only [Nat.add_zero] at h0
    simp only [part, h0]
    exact part_none l (i + 1) _ (fun m hm => by rw [Nat.add_assoc, Nat.add_comm 1 m]; exact h (m + 1) (by simpa using hm))
theorem part_congr {sel sel' : Nat → Bool} : ∀ (l : List Rec) (i : Nat) (F : FS), (∀ m, m < l.length → sel (i + m) = sel' (i + m)) → part sel i l F = part sel' i l F
  | [], _, _, _ => rfl
  | r :: l, i, F, h => by
    have h0 := h 0 (by simp)
    simp only [Nat.add_zero] at h0
    simp only [part, h0]
    exact part_congr l (i + 1) _ (fun m hm => by rw [Nat.add_assoc, Nat.add_comm 1 m]; exact h (m + 1) (by simpa using hm))

theorem agree_pre {r : Rec} {sel : Nat → Bool} : ∀ (l : List Rec) (i : Nat) (F F' : FS), Agree ops r F F' → (∀ (m : Nat) x, l[m]? = some x → sel (i + m) = false → Indep ops x r) → Agree ops r (full l F) (part sel i l F')
  | [], _, _, _, h, _ => h
  | x :: l, i, F, F', h, hi => by
    simp only [full, List.foldl_cons, part]
    have tail : ∀ (m : Nat) y, l[m]? = some y → sel (i + 1 + m) = false → Indep ops y r := fun m y hm hs => hi (m + 1) y (by simpa using hm) (by rw [Nat.add_assoc, Nat.add_comm 1 m] at hs; exact hs)
    by_cases hs : sel i = true
    · simp only [hs, if_true]
      exact agree_pre l (i + 1) _ _ h.congr tail
    · simp only [hs]
      exact agree_pre l (i + 1) _ _ (((Agree.step (hi 0 x rfl (by simpa using hs)) F).symm).trans h) tail
theorem agree_post {r : Rec} {sel : Nat → Bool} : ∀ (l : List Rec) (i : Nat) (F F' : FS), Agree ops r F F' → (∀ (m : Nat) x, l[m]? = some x → sel (i + m) = true → Indep ops x r) → Agree ops r F (part sel i l F')
  | [], _, _, _, h, _ => h
  | x :: l, i, F, F', h, hi => by
    simp only [part]
    have tail : ∀ (m : Nat) y, l[m]? = some y → sel (i + 1 + m) = true → Indep ops y r := fun m y hm hs => hi (m + 1) y (by simpa using hm) (by rw [Nat.add_assoc, Nat.add_comm 1 m] at hs; exact hs)
    by_cases hs : sel i = true
    · simp only [hs, if_true]
      exact agree_post l (i + 1) _ _ (h.trans (Agree.step (hi 0 x rfl (by simpa using hs)) F')) tail
    · simp only [hs]
      exact agree_post l (i + 1) _ _ h tail
theorem part_rec {r : Rec} {sel : Nat → Bool} : ∀ (l : List Rec) (i : Nat) (F : FS), (∀ (m : Nat) x, l[m]? = some x → sel (i + m) = true → Indep ops x r) → part sel i l (F.rec' r) = (part sel i l F).rec' r
  | [], _, _, _ => rfl
  | x :: l, i, F, hi => by
    simp only [part]
    have tail : ∀ (m : Nat) y, l[m]? = some y → sel (i + 1 + m) = true → Indep ops y r := fun m y hm hs => hi (m + 1) y (by simpa using hm) (by rw [Nat.add_assoc, Nat.add_comm 1 m] at hs; exact hs)
    by_cases hs : sel i = true
    · simp only [hs, if_true]
      rw [← rec_comm (hi 0 x rfl (by simpa using hs))]
      exact part_rec l (i + 1) _ tail
    · simp only [hs]
      exact part_rec l (i + 1) _ tail

/-- What a record says of its operation, at a state. -/
structure RecOk (P : Program) (ρ : Env) (n : Nat) (base : Nat) (fb : Nat → Option (List C)) (ops : Array Oper) (r : Rec) (F : FS) : Prop where
  run : r.want = true → ∃ vw, vw.nid = r.nid ∧ OpOk P ρ base vw r.o r.eff ∧ Sees n fb vw r.o r.eff F
  skip : r.want = false → r.eff = { val := .one .undef }
  guard : match r.o.guard with
    | none => r.want = true
    | some (g, b) => ∃ t, (ops[g]?).bind (·.dst) = some t ∧ t < n ∧ ((∃ e : E, F.tmp t = .one (.bool e) ∧ r.want = (e.B ρ == b)) ∨ (F.tmp t = .one .undef ∧ r.want = false))
  dst : ∀ d, r.o.dst = some d → d < n

theorem RecOk.agree {r : Rec} {F F' : FS} (h : RecOk P ρ n W0.heap.size fb ops r F) (ha : Agree ops r F F') : RecOk P ρ n W0.heap.size fb ops r F' := by
  refine ⟨fun hw => ?_, h.skip, ?_, h.dst⟩
  · obtain ⟨vw, hn, h1, h2⟩ := h.run hw
    have hrow : ∀ b ∈ r.rid, F.row b = F'.row b := fun b hb => ha.row b (List.mem_append_right _ hb)
    refine ⟨vw, hn, h1, ⟨fun x hx v hv => ?_, fun p hp c hc => ?_, fun p hp => ?_, fun hx => by rw [hn]; exact (ha.nw hx).1 (by rw [← hn]; exact h2.nw hx), fun id hid q hq => ?_, ?_, h2.fb, h2.one⟩⟩
    · have h3 := h2.ev x hx v hv
      cases x with
      | tmp t =>
        simp only [evF] at h3 ⊢
        rw [← ha.t t (List.mem_append_left _ (opTs_mem hx))]
        exact h3
      | _ => exact h3
    · rw [← ha.rd p hp]; exact h2.rd p hp c hc
    · obtain ⟨c, hc⟩ := h2.wr p hp
      have := ha.wr p hp
      rw [hc] at this
      exact Option.isSome_iff_exists.1 this.symm
    · have := h2.rr id hid q hq
      unfold rwF at this ⊢
      rw [← ha.row id (List.mem_append_left _ hid)]
      exact this
    · have h3 := h2.re
      rw [hn] at h3 ⊢
      unfold Rec.rid at hrow
      revert h3 hrow
      cases r.eff.re with
      | none => exact fun _ _ => trivial
      | set id q => intro hrow h3; exact ⟨by rw [← hrow id (by simp [RE.rs])]; exact h3.1, h3.2⟩
      | mk rs =>
        intro hrow h3 i hi
        have mem : ∀ (rs : List RowOb) (nid i : Nat), i < rs.length → nid + i ∈ (mkRs nid rs).map (·.1) := by
          intro rs
          induction rs with
          | nil => intro nid i hi; simp at hi
          | cons x rs ih =>
            intro nid i hi
            cases i with
            | zero => simp [mkRs]
            | succ i =>
              simp only [mkRs, List.map_cons, List.mem_cons]
              right
              rw [show nid + (i + 1) = nid + 1 + i by omega]
              exact ih (nid + 1) i (by simpa using hi)
        rw [← hrow _ (mem rs r.nid i hi)]
        exact h3 i hi
      | app old q => intro hrow h3; exact ⟨by rw [← hrow old (by simp [RE.rs])]; exact h3.1, h3.2.1, by rw [← hrow r.nid (by simp [RE.rs])]; exact h3.2.2.1, h3.2.2.2⟩
      | view old q0 q => intro hrow h3; exact ⟨by rw [← hrow old (by simp [RE.rs])]; exact h3.1, h3.2.1, h3.2.2.1, by rw [← hrow r.nid (by simp [RE.rs])]; exact h3.2.2.2.1, h3.2.2.2.2⟩
  · have hg := h.guard
    cases hgd : r.o.guard with
    | none => rw [hgd] at hg; exact hg
    | some p =>
      obtain ⟨g, b⟩ := p
      rw [hgd] at hg
      obtain ⟨t, h1, h2, h3⟩ := hg
      refine ⟨t, h1, h2, ?_⟩
      have : F.tmp t = F'.tmp t := ha.t t (List.mem_append_right _ (by simp [gTs, hgd, h1]))
      rw [← this]
      exact h3

theorem yielded_of {j : J} {a : Act} {w : World} {F : FS} (h : Rel ρ n W0 fb F j a w) {g t : Nat} (ht : (ops[g]?).bind (·.dst) = some t) (hn : t < n) :
    (∀ e, F.tmp t = .one (.bool e) → yielded ops a.tmps g = some (e.B ρ)) ∧ (F.tmp t = .one .undef → yielded ops a.tmps g = none) := by
  obtain ⟨v, h1, h2⟩ := h.tmp t hn
  constructor
  · intro e he
    rw [he] at h2
    rcases h2 with h2 | h2
    · cases h2
    have := one_bool h2
    subst this
    simp [yielded, ht, h1]
  · intro he
    rw [he] at h2
    rcases h2 with h2 | h2
    · cases h2
    have : v = Go.undef := (Option.some.inj h2).symm
    subst this
    simp [yielded, ht, h1, Go.undef]

theorem rec_step {j : J} {a : Act} {w : World} {F : FS} (h : Rel ρ n W0 fb F j a w) {r : Rec} (hr : RecOk P ρ n W0.heap.size fb ops r F) {i : Nat} (hi : ops[i]? = some r.o)
    {K : Act → World → Prop} {Q : Exit → Act → World → Prop} (hK : ∀ j' a' w', Rel ρ n W0 fb (F.rec' r) j' a' w' → K a' w') : wpOp P ops Q i K a w := by
  have hw : Region.wanted r.o (yielded ops a.tmps) = r.want := by
    have hg := hr.guard
    unfold Region.wanted
    cases hgd : r.o.guard with
    | none => rw [hgd] at hg; exact hg.symm
    | some p =>
      obtain ⟨g, b⟩ := p
      rw [hgd] at hg
      obtain ⟨t, h1, h2, h3⟩ := hg
      obtain ⟨h4, h5⟩ := yielded_of h h1 h2
      rcases h3 with ⟨e, h6, h7⟩ | ⟨h6, h7⟩
      · simp only [h4 e h6, h7]
        cases e.B ρ <;> cases b <;> rfl
      · simp only [h5 h6, h7]
        rfl
  unfold wpOp
  simp only [hi, hw]
  cases hwant : r.want with
  | true =>
    obtain ⟨vw, hn, h1, h2⟩ := hr.run hwant
    exact .inl (op_step h h1 h2 hr.dst (by rw [hn]; exact hK))
  | false =>
    have he := hr.skip hwant
    refine hK j _ w ?_
    unfold FS.rec' FS.app
    rw [he]
    exact h.put rfl hr.dst

theorem region_seq : ∀ (post pre : List Rec) (F0 : FS), ops.toList = (pre ++ post).map (·.o) → (∀ (m : Nat) r, post[m]? = some r → RecOk P ρ n W0.heap.size fb ops r (full (pre ++ post.take m) F0)) →
    ∀ {Q : Exit → Act → World → Prop} {j : J} {a : Act} {w : World}, Rel ρ n W0 fb (full pre F0) j a w → (∀ j' a' w', Rel ρ n W0 fb (full (pre ++ post) F0) j' a' w' → Q .normal a' w') → wpOps P ops Q (List.range' pre.length post.length) a w
  | [], pre, F0, hl, hr, Q, j, a, w, h, hQ => by
    simp only [List.length_nil, List.range'_zero, wpOps]
    exact hQ j a w (by simpa using h)
  | r :: post, pre, F0, hl, hr, Q, j, a, w, h, hQ => by
    simp only [List.length_cons, List.range'_succ]
    rw [wpOps_cons]
    have h0 := hr 0 r rfl
    simp only [List.take_zero, List.append_nil] at h0
    refine rec_step h h0 ?_ (fun j' a' w' h' => ?_)
    · rw [← Array.getElem?_toList, hl]
      simp
    · have := region_seq post (pre ++ [r]) F0 (by rw [hl]; simp) (fun m x hm => by
        have := hr (m + 1) x (by simpa using hm)
        simpa using this) (Q := Q) (j := j') (a := a') (w := w') (by simpa [full] using h') (fun j'' a'' w'' h'' => hQ j'' a'' w'' (by simpa using h''))
      simpa using this

/-- Closed under what must have come before. -/
def Closed (ops : Array Oper) (sel : Nat → Bool) : Prop := ∀ (i : Nat) o, ops[i]? = some o → sel i = true → ∀ e ∈ o.after, Region.binds .any e = true → sel e.on = true

theorem region_any {L : List Rec} {F0 : FS} (hl : ops.toList = L.map (·.o)) (hr : ∀ (m : Nat) r, L[m]? = some r → RecOk P ρ n W0.heap.size fb ops r (full (L.take m) F0))
    (hback : ∀ (i : Nat) o, ops[i]? = some o → ∀ e ∈ o.after, Region.binds .any e = true → e.on < i)
    (hpair : ∀ (k i : Nat) x r, k < i → L[k]? = some x → L[i]? = some r → Indep ops x r ∨ ∀ sel, Closed ops sel → (∀ o, ops[i]? = some o → ∀ e ∈ o.after, Region.binds .any e = true → sel e.on = true) → sel k = true) {Q : Exit → Act → World → Prop}
    (hQ : ∀ j' a' w', Rel ρ n W0 fb (full L F0) j' a' w' → Q .normal a' w') :
    ∀ (fuel : Nat) (listed : Array Bool) (j : J) (a : Act) (w : World), listed.size = L.length → Closed ops (fun i => listed.getD i false) → (List.range L.length).countP (fun i => !listed.getD i false) ≤ fuel →
      Rel ρ n W0 fb (part (fun i => listed.getD i false) 0 L F0) j a w → wpAny P .any ops Q fuel listed a w := by
  have hsz : ops.size = L.length := by rw [← Array.length_toList, hl, List.length_map]
  have hop : ∀ (i : Nat) r, L[i]? = some r → ops[i]? = some r.o := fun i r hi => by rw [← Array.getElem?_toList, hl, List.getElem?_map, hi]; rfl
  have gd : ∀ (listed : Array Bool) (i : Nat), listed.size = L.length → i < L.length → listed.getD i true = listed.getD i false := fun listed i hs hi => by
    rw [Array.getD_eq_getD_getElem?, Array.getD_eq_getD_getElem?, Array.getElem?_eq_getElem (by omega)]; rfl
  have done : ∀ (listed : Array Bool) (j : J) (a : Act) (w : World), listed.size = L.length → Closed ops (fun i => listed.getD i false) → Rel ρ n W0 fb (part (fun i => listed.getD i false) 0 L F0) j a w → Region.ready .any ops listed = [] → Q .normal a w := by
    intro listed j a w hs hc h hnil
    refine hQ j a w ?_
    have hall : ∀ i, i < L.length → listed.getD i false = true := by
      intro i
      induction i using Nat.strongRecOn with
      | _ i ih =>
        intro hi
        cases hb : listed.getD i false with
        | true => rfl
        | false =>
          exfalso
          have : i ∈ Region.ready .any ops listed := by
            unfold Region.ready
            simp only [List.mem_filter, List.mem_range, Bool.and_eq_true, Bool.not_eq_true']
            obtain ⟨r, hr'⟩ : ∃ r, L[i]? = some r := ⟨L[i], List.getElem?_eq_getElem hi⟩
            have ho := hop i r hr'
            refine ⟨by omega, ?_, ?_⟩
            · rw [gd listed i hs hi]; exact hb
            · rw [ho]
              simp only [Option.map_some, Option.getD_some, Array.all_eq_true_iff_forall_mem, Bool.or_eq_true, Bool.not_eq_true']
              intro e he
              cases hbd : Region.binds .any e with
              | false => exact .inl rfl
              | true =>
                have hlt := hback i _ ho e he hbd
                exact .inr (ih e.on hlt (by omega))
          rw [hnil] at this
          cases this
    rw [part_full L 0 F0 (fun m hm => by simpa using hall m hm)] at h
    exact h
  intro fuel
  induction fuel with
  | zero =>
    intro listed j a w hs hc hf h
    have hall : ∀ i, i < L.length → listed.getD i false = true := fun i hi => by
      have := List.countP_eq_zero.1 (Nat.le_zero.1 hf) i (List.mem_range.2 hi)
      simpa using this
    have hnil : Region.ready .any ops listed = [] := by
      unfold Region.ready
      rw [List.filter_eq_nil_iff]
      intro i hi
      have hi' : i < L.length := by rw [List.mem_range] at hi; omega
      rw [gd listed i hs hi', hall i hi']
      simp
    exact ⟨hnil, done listed j a w hs hc h hnil⟩
  | succ fuel ih =>
    intro listed j a w hs hc hf h
    refine ⟨fun hnil => done listed j a w hs hc h hnil, fun i hi => ?_⟩
    obtain ⟨hun, o, ho, hall⟩ := mem_ready.1 hi
    have hi' : i < L.length := by
      rw [← hsz]
      rcases Nat.lt_or_ge i ops.size with h1 | h1
      · exact h1
      · rw [Array.getElem?_eq_none h1] at ho; cases ho
    obtain ⟨r, hr'⟩ : ∃ r, L[i]? = some r := ⟨L[i], List.getElem?_eq_getElem hi'⟩
    have ho' := hop i r hr'
    rw [ho] at ho'
    cases ho'
    have hun' : listed.getD i false = false := by rw [← gd listed i hs hi']; exact hun
    have hsplit : L = L.take i ++ r :: L.drop (i + 1) := by
      rw [List.getElem?_eq_getElem hi'] at hr'
      cases hr'
      simp
    have hlen : (L.take i).length = i := by simp; omega
    -- the ones that have not come although earlier, and those that have come although later
    have hpre : ∀ (m : Nat) x, (L.take i)[m]? = some x → listed.getD (0 + m) false = false → Indep ops x r := by
      intro m x hm hsel
      have hmi : m < i := by
        rcases Nat.lt_or_ge m i with h1 | h1
        · exact h1
        · rw [List.getElem?_eq_none (by omega)] at hm; cases hm
      rw [List.getElem?_take_of_lt hmi] at hm
      rcases hpair m i x r hmi hm hr' with h1 | h1
      · exact h1
      · exfalso
        have := h1 (fun i => listed.getD i false) hc (fun o' ho2 e he hb => by
          rw [ho] at ho2; cases ho2
          exact hall e he hb)
        simp only [Nat.zero_add] at hsel
        rw [hsel] at this
        cases this
    have hpost : ∀ (m : Nat) x, (L.drop (i + 1))[m]? = some x → listed.getD (i + 1 + m) false = true → Indep ops x r := by
      intro m x hm hsel
      rw [List.getElem?_drop] at hm
      rcases hpair i (i + 1 + m) r x (by omega) hr' hm with h1 | h1
      · exact h1.symm
      · exfalso
        have := h1 (fun i => listed.getD i false) hc (fun o' ho2 e he hb => hc (i + 1 + m) o' ho2 hsel e he hb)
        rw [hun'] at this
        cases this
    have hF : part (fun i => listed.getD i false) 0 L F0 = part (fun i => listed.getD i false) (i + 1) (L.drop (i + 1)) (part (fun i => listed.getD i false) 0 (L.take i) F0) := by
      conv => lhs; rw [hsplit]
      rw [part_append, hlen, Nat.zero_add]
      simp only [part, hun']
      rfl
    have hag : Agree ops r (full (L.take i) F0) (part (fun i => listed.getD i false) 0 L F0) := by
      rw [hF]
      exact agree_post _ _ _ _ (agree_pre _ 0 _ _ (Agree.refl ops r F0) hpre) hpost
    have hok := (hr i r hr').agree hag
    refine rec_step h hok ho (fun j' a' w' h' => ?_)
    have hsz' : (listed.setIfInBounds i true).size = L.length := by simp [hs]
    have hget : ∀ k, (listed.setIfInBounds i true).getD k false = if k = i then true else listed.getD k false := by
      intro k
      rw [Array.getD_eq_getD_getElem?, Array.getElem?_setIfInBounds]
      by_cases hk : k = i
      · subst hk
        simp [hs, hi']
      · have hik : ¬ i = k := fun e => hk e.symm
        simp [hk, hik, Array.getD_eq_getD_getElem?]
    refine ih _ j' a' w' hsz' ?_ ?_ ?_
    · intro k o' hk hsel e he hb
      simp only [hget] at hsel ⊢
      by_cases hki : k = i
      · subst hki
        rw [ho] at hk; cases hk
        split
        · rfl
        · exact hall e he hb
      · rw [if_neg hki] at hsel
        split
        · rfl
        · exact hc k o' hk hsel e he hb
    · have : (List.range L.length).countP (fun k => !(listed.setIfInBounds i true).getD k false) < (List.range L.length).countP (fun k => !listed.getD k false) := by
        have e1 : (List.range L.length) = List.range i ++ i :: (List.range' (i + 1) (L.length - (i + 1))) := by
          have h1 : i :: List.range' (i + 1) (L.length - (i + 1)) = List.range' i (L.length - i) := by
            rw [show L.length - i = (L.length - (i + 1)) + 1 by omega, List.range'_succ]
          have h2 := List.range'_append_1 (s := 0) (m := i) (n := L.length - i)
          rw [Nat.zero_add, show i + (L.length - i) = L.length by omega] at h2
          rw [h1, List.range_eq_range', List.range_eq_range', h2]
        rw [e1, List.countP_append, List.countP_append, List.countP_cons, List.countP_cons]
        have c1 : ∀ l : List Nat, i ∉ l → l.countP (fun k => !(listed.setIfInBounds i true).getD k false) = l.countP (fun k => !listed.getD k false) := by
          intro l hl'
          apply List.countP_congr
          intro k hk
          have : k ≠ i := fun e => hl' (e ▸ hk)
          simp only [hget, this, if_false]
        rw [c1 _ (by simp), c1 _ (by rw [List.mem_range'_1]; omega)]
        simp [hget, hun']
      omega
    · have : part (fun k => (listed.setIfInBounds i true).getD k false) 0 L F0 = (part (fun i => listed.getD i false) 0 L F0).rec' r := by
        rw [hF]
        conv => lhs; rw [hsplit]
        rw [part_append, hlen, Nat.zero_add]
        simp only [part, hget, if_true]
        rw [part_congr (sel' := fun i => listed.getD i false) (L.take i) 0 F0 (fun m hm => by
          have : m ≠ i := by rw [hlen] at hm; omega
          simp [this])]
        rw [part_congr (sel' := fun i => listed.getD i false) (L.drop (i + 1)) (i + 1) _ (fun m hm => by
          have : ¬ i + 1 + m = i := by omega
          simp [this])]
        exact part_rec _ _ _ hpost
      rw [this]
      exact h'
end
end Go.Proofs.YtcfnglbcgkappaaGreat

/- The symbolic run of a region's operations, and that it is sound. Nothing of the program is in here. -/
set_option linter.unusedVariables false
set_option linter.unusedSimpArgs false
namespace Go.Proofs.YtcfnglbcgkappaaGreat
open Go.RowKit

def evS (tmps : List V) : Operand → Option V
  | .tmp t => match tmps[t]? with
    | some .top => none
    | x => x
  | .const v => ofValue v
  | .global _ => none
  | .func f => some (.one (.fn f))
def ldS (heap : List Ob) (b o : Nat) : Option C := match heap[b]? with
  | some (.box cs _) => cs[o]?
  | _ => none
def rwS (heap : List Ob) (id : Nat) : Option RowOb := match heap[id]? with
  | some (.row r) => some r
  | _ => none
def Cx.fbs (cx : Cx) (b : Nat) : Option (List C) := cx.fb[b]?
def St.vw (cx : Cx) (s : St) : Vw := ⟨evS s.tmps, ldS s.heap, rwS s.heap, cx.fbs, s.heap.length⟩
def boxH (heap : List Ob) (b : Nat) : Option (List C × Nat) := match heap[b]? with
  | some (.box cs ty) => some (cs, ty)
  | _ => none
def rowH (heap : List Ob) (b : Nat) : Option (Option RowOb) := match heap[b]? with
  | some (.row r) => some (some r)
  | some .gone => some none
  | _ => none
def fsOf (tm : Nat → V) (heap : List Ob) : FS := ⟨tm, boxH heap, rowH heap⟩
def St.fs (s : St) : FS := fsOf (fun t => (s.tmps[t]?).getD (.one .undef)) s.heap

def wrsS : List (Nat × Nat × C) → List Ob → Option (List Ob)
  | [], h => some h
  | (b, o, c) :: l, h => match h[b]? with
    | some (.box cs ty) => if o < cs.length then wrsS l (h.set b (.box (cs.set o c) ty)) else none
    | _ => none
def heapApp (heap : List Ob) (eff : Eff) : Option (List Ob) :=
  match eff.al, eff.re with
  | some x, .none => (match eff.wr with | [] => some (heap ++ [.box x.1 x.2]) | _ => none)
  | none, .none => wrsS eff.wr heap
  | none, .set id r => (match eff.wr, heap[id]? with
    | [], some (.row q) => if q.own && r.own then some (heap.set id (.row r)) else none
    | _, _ => none)
  | none, .mk rs => (match eff.wr with | [] => some (heap ++ rs.map .row) | _ => none)
  | none, .app old r => (match eff.wr, heap[old]? with
    | [], some (.row q) => if q.own && r.own then some (heap.set old .gone ++ [.row r]) else none
    | _, _ => none)
  | none, .view old q r => (match eff.wr, heap[old]? with
    | [], some (.row _) => if !q.own && !r.own then some (heap.set old (.row q) ++ [.row r]) else none
    | _, _ => none)
  | _, _ => none
def St.app (s : St) (dst : Option Nat) (eff : Eff) : Option St :=
  match heapApp s.heap eff with
  | none => none
  | some h => match dst with
    | none => some ⟨s.tmps, h⟩
    | some d => if d < s.tmps.length then some ⟨s.tmps.set d eff.val, h⟩ else none

theorem evS_evF (s : St) (x : Operand) : evF s.fs s.tmps.length x = evS s.tmps x := by
  cases x with
  | tmp t =>
    simp only [evF, evS, St.fs, fsOf]
    split
    · rename_i h
      rw [List.getElem?_eq_getElem h]
      simp only [Option.getD_some]
      cases s.tmps[t] <;> rfl
    · rename_i h; rw [List.getElem?_eq_none (Nat.le_of_not_lt h)]
  | _ => rfl
theorem ldS_ldF (s : St) (b o : Nat) : ldF s.fs b o = ldS s.heap b o := by
  simp only [ldF, St.fs, fsOf, boxH, ldS]
  split <;> rfl
theorem rwS_rwF (s : St) (id : Nat) : rwF s.fs id = rwS s.heap id := by
  simp only [rwF, St.fs, fsOf, rowH, rwS]
  split <;> simp_all

theorem wrsS_ok : ∀ (l : List (Nat × Nat × C)) (h h' : List Ob) (tm : Nat → V), wrsS l h = some h' → fsOf tm h' = FS.wrs (fsOf tm h) l ∧ ∀ p ∈ l, ∃ c, ldF (fsOf tm h) p.1 p.2.1 = some c
  | [], h, h', tm, e => by cases e; exact ⟨rfl, fun p hp => by cases hp⟩
  | (b, o, c) :: l, h, h', tm, e => by
    simp only [wrsS] at e
    split at e
    · rename_i cs ty hb
      split at e
      · rename_i ho
        obtain ⟨h1, h2⟩ := wrsS_ok l _ h' tm e
        have hblt : b < h.length := (List.getElem?_eq_some_iff.1 hb).1
        have hw : fsOf tm (h.set b (.box (cs.set o c) ty)) = FS.wr (fsOf tm h) (b, o, c) := by
          refine FS.ext' (fun _ => rfl) (fun b' => ?_) (fun b' => ?_)
          · simp only [FS.wr, fsOf, boxH, List.getElem?_set]
            by_cases hbb : b' = b
            · subst hbb
              simp only [if_true, hblt, hb, Option.map_some]
            · simp [hbb, show ¬ b = b' from fun e => hbb e.symm]
          · simp only [FS.wr, fsOf, rowH, List.getElem?_set]
            by_cases hbb : b = b'
            · subst hbb
              simp only [if_true, hblt, hb]
            · simp [hbb]
        refine ⟨by rw [h1, hw]; rfl, fun p hp => ?_⟩
        rcases List.mem_cons.1 hp with rfl | hp
        · exact ⟨cs[o], by simp [ldF, fsOf, boxH, hb, List.getElem?_eq_getElem ho]⟩
        · obtain ⟨c', hc'⟩ := h2 p hp
          rw [hw, ldF_wr] at hc'
          split at hc'
          · rw [Option.map_eq_some_iff] at hc'
            obtain ⟨x, hx, _⟩ := hc'
            exact ⟨x, hx⟩
          · exact ⟨c', hc'⟩
      · cases e
    · cases e

theorem row_at {heap : List Ob} {b : Nat} {r : RowOb} (h : heap[b]? = some (.row r)) : rowH heap b = some (some r) ∧ boxH heap b = none ∧ b < heap.length :=
  ⟨by simp [rowH, h], by simp [boxH, h], (List.getElem?_eq_some_iff.1 h).1⟩
theorem none_at {heap : List Ob} {b : Nat} (h : heap.length ≤ b) : rowH heap b = none ∧ boxH heap b = none :=
  ⟨by simp [rowH, List.getElem?_eq_none h], by simp [boxH, List.getElem?_eq_none h]⟩

theorem heapApp_ok {heap heap' : List Ob} {eff : Eff} (h : heapApp heap eff = some heap') (tm : Nat → V) :
    fsOf tm heap' = ((match eff.al with | some x => (fsOf tm heap).new heap.length x | none => (fsOf tm heap).wrs eff.wr).rws (eff.re.rs heap.length)) ∧ (∀ p ∈ eff.wr, ∃ c, ldF (fsOf tm heap) p.1 p.2.1 = some c) ∧ ReOk (fsOf tm heap) heap.length eff.re ∧ ((eff.al = none ∧ eff.wr = []) ∨ eff.re = .none) := by
  unfold heapApp at h
  split at h
  · rename_i x hal hre
    split at h
    · rename_i hwr
      cases h
      rw [hal, hre, hwr]
      refine ⟨?_, fun p hp => (by cases hp), trivial, .inr rfl⟩
      refine FS.ext' (fun _ => rfl) (fun b => ?_) (fun b => ?_)
      · simp only [FS.new, FS.rws, RE.rs, List.foldl_nil, fsOf, boxH]
        by_cases hb : b = heap.length
        · subst hb; simp
        · rcases Nat.lt_or_ge b heap.length with h1 | h1
          · rw [List.getElem?_append_left h1]; simp [hb]
          · rw [List.getElem?_eq_none (by simp; omega), List.getElem?_eq_none h1]; simp [hb]
      · simp only [FS.new, FS.rws, RE.rs, List.foldl_nil, fsOf, rowH]
        by_cases hb : b = heap.length
        · subst hb; simp
        · rcases Nat.lt_or_ge b heap.length with h1 | h1
          · rw [List.getElem?_append_left h1]
          · rw [List.getElem?_eq_none (by simp; omega), List.getElem?_eq_none h1]
    · cases h
  · rename_i hal hre
    rw [hal, hre]
    obtain ⟨h1, h2⟩ := wrsS_ok eff.wr heap heap' tm h
    exact ⟨h1, h2, trivial, .inr rfl⟩
  · rename_i id r hal hre
    split at h
    · rename_i q hwr hq
      split at h
      · rename_i ho
        rw [Bool.and_eq_true] at ho
        cases h
        rw [hal, hre, hwr]
        obtain ⟨r1, r2, r3⟩ := row_at hq
        refine ⟨?_, fun p hp => (by cases hp), ⟨⟨q, r1, ho.1⟩, ho.2⟩, .inl ⟨rfl, rfl⟩⟩
        refine FS.ext' (fun _ => rfl) (fun b => ?_) (fun b => ?_)
        · simp only [FS.wrs, FS.rws, RE.rs, List.foldl_nil, List.foldl_cons, FS.rw1, fsOf, boxH, List.getElem?_set]
          by_cases hb : id = b
          · subst hb; simp only [if_true, r3, hq]
          · simp [hb]
        · simp only [FS.wrs, FS.rws, RE.rs, List.foldl_nil, List.foldl_cons, FS.rw1, fsOf, rowH, List.getElem?_set]
          by_cases hb : id = b
          · subst hb; simp [r3]
          · simp [hb, show ¬ b = id from fun e => hb e.symm]
      · cases h
    · cases h
  · rename_i rs hal hre
    split at h
    · rename_i hwr
      cases h
      rw [hal, hre, hwr]
      refine ⟨?_, fun p hp => (by cases hp), fun i hi => (none_at (by omega)).1, .inl ⟨rfl, rfl⟩⟩
      refine FS.ext' (fun t => ?_) (fun b => ?_) (fun b => ?_)
      · rw [(rws_box _ _).2]; rfl
      · rw [(rws_box _ _).1]
        simp only [FS.wrs, List.foldl_nil, fsOf, boxH]
        rcases Nat.lt_or_ge b heap.length with h1 | h1
        · rw [List.getElem?_append_left h1]
        · rw [List.getElem?_append_right h1, List.getElem?_map, List.getElem?_eq_none h1]
          cases rs[b - heap.length]? <;> rfl
      · show _ = ((fsOf tm heap).rws (mkRs heap.length rs)).row b
        rw [mkRs_row]
        simp only [fsOf, rowH]
        rcases Nat.lt_or_ge b heap.length with h1 | h1
        · rw [List.getElem?_append_left h1, if_neg (by omega)]
        · rw [List.getElem?_append_right h1, List.getElem?_map]
          by_cases h2 : b < heap.length + rs.length
          · rw [if_pos ⟨h1, h2⟩, List.getElem?_eq_getElem (by omega)]
            rfl
          · rw [if_neg (by omega), List.getElem?_eq_none (by omega), List.getElem?_eq_none h1]
            rfl
    · cases h
  · rename_i old r hal hre
    split at h
    · rename_i q hwr hq
      split at h
      · rename_i ho
        rw [Bool.and_eq_true] at ho
        cases h
        rw [hal, hre, hwr]
        obtain ⟨r1, r2, r3⟩ := row_at hq
        refine ⟨?_, fun p hp => (by cases hp), ⟨⟨q, r1, ho.1⟩, ho.2, (none_at (Nat.le_refl _)).1, by omega⟩, .inl ⟨rfl, rfl⟩⟩
        refine FS.ext' (fun _ => rfl) (fun b => ?_) (fun b => ?_)
        · simp only [FS.wrs, FS.rws, RE.rs, List.foldl_nil, List.foldl_cons, FS.rw1, fsOf, boxH]
          rcases Nat.lt_or_ge b heap.length with h1 | h1
          · rw [List.getElem?_append_left (by simpa using h1), List.getElem?_set]
            by_cases hb : old = b
            · subst hb; simp only [if_true, r3, hq]
            · simp [hb]
          · rw [List.getElem?_append_right (by simpa using h1), List.getElem?_eq_none h1]
            simp only [List.length_set]
            cases h2 : b - heap.length <;> simp
        · simp only [FS.wrs, FS.rws, RE.rs, List.foldl_nil, List.foldl_cons, FS.rw1, fsOf, rowH]
          rcases Nat.lt_or_ge b heap.length with h1 | h1
          · rw [List.getElem?_append_left (by simpa using h1), List.getElem?_set, if_neg (show ¬ b = heap.length by omega)]
            by_cases hb : old = b
            · subst hb; simp [r3]
            · simp [hb, show ¬ b = old from fun e => hb e.symm]
          · rw [List.getElem?_append_right (by simpa using h1), List.getElem?_eq_none h1]
            simp only [List.length_set]
            by_cases h2 : b = heap.length
            · subst h2; simp
            · rw [if_neg h2, if_neg (show ¬ b = old by omega)]
              rw [List.getElem?_eq_none (by simp; omega)]
      · cases h
    · cases h
  · rename_i old q r hal hre
    split at h
    · rename_i q0 hwr hq
      split at h
      · rename_i ho
        rw [Bool.and_eq_true] at ho
        cases h
        rw [hal, hre, hwr]
        obtain ⟨r1, r2, r3⟩ := row_at hq
        refine ⟨?_, fun p hp => (by cases hp), ⟨⟨q0, r1⟩, by simpa using ho.1, by simpa using ho.2, (none_at (Nat.le_refl _)).1, by omega⟩, .inl ⟨rfl, rfl⟩⟩
        refine FS.ext' (fun _ => rfl) (fun b => ?_) (fun b => ?_)
        · simp only [FS.wrs, FS.rws, RE.rs, List.foldl_nil, List.foldl_cons, FS.rw1, fsOf, boxH]
          rcases Nat.lt_or_ge b heap.length with h1 | h1
          · rw [List.getElem?_append_left (by simpa using h1), List.getElem?_set]
            by_cases hb : old = b
            · subst hb; simp only [if_true, r3, hq]
            · simp [hb]
          · rw [List.getElem?_append_right (by simpa using h1), List.getElem?_eq_none h1]
            simp only [List.length_set]
            cases h2 : b - heap.length <;> simp
        · simp only [FS.wrs, FS.rws, RE.rs, List.foldl_nil, List.foldl_cons, FS.rw1, fsOf, rowH]
          rcases Nat.lt_or_ge b heap.length with h1 | h1
          · rw [List.getElem?_append_left (by simpa using h1), List.getElem?_set, if_neg (show ¬ b = heap.length by omega)]
            by_cases hb : old = b
            · subst hb; simp [r3]
            · simp [hb, show ¬ b = old from fun e => hb e.symm]
          · rw [List.getElem?_append_right (by simpa using h1), List.getElem?_eq_none h1]
            simp only [List.length_set]
            by_cases h2 : b = heap.length
            · subst h2; simp
            · rw [if_neg h2, if_neg (show ¬ b = old by omega)]
              rw [List.getElem?_eq_none (by simp; omega)]
      · cases h
    · cases h
  · cases h

theorem St.app_ok {s s' : St} {dst : Option Nat} {eff : Eff} (h : s.app dst eff = some s') : s'.fs = s.fs.app dst s.heap.length eff ∧ s'.tmps.length = s.tmps.length ∧ (∀ d, dst = some d → d < s.tmps.length) ∧ (∀ p ∈ eff.wr, ∃ c, ldF s.fs p.1 p.2.1 = some c) ∧ ReOk s.fs s.heap.length eff.re ∧ ((eff.al = none ∧ eff.wr = []) ∨ eff.re = .none) := by
  unfold St.app at h
  split at h
  · cases h
  · rename_i hp heq
    obtain ⟨h1, h2, h3, h4⟩ := heapApp_ok heq (fun t => (s.tmps[t]?).getD (.one .undef))
    have key : ∀ dst, (fsOf (fun t => (s.tmps[t]?).getD (.one .undef)) hp).put dst eff.val = s.fs.app dst s.heap.length eff := fun dst => by
      unfold FS.app
      rw [h1]
      rfl
    split at h
    · cases h
      refine ⟨?_, rfl, fun d hd => (by cases hd), h2, h3, h4⟩
      rw [← key]
      refine FS.ext' (fun t => ?_) (fun _ => rfl) (fun _ => rfl)
      simp [FS.put, St.fs, fsOf]
    · rename_i d
      split at h
      · rename_i hd
        cases h
        refine ⟨?_, by simp, fun d' hd' => (by cases hd'; exact hd), h2, h3, h4⟩
        rw [← key]
        refine FS.ext' (fun t => ?_) (fun _ => rfl) (fun _ => rfl)
        simp only [FS.put, St.fs, fsOf, List.getElem?_set]
        by_cases ht : d = t
        · subst ht; simp [hd]
        · simp [ht]
      · cases h

/-! ### The operations of a region -/
def opsK (cx : Cx) (ops : Array Oper) : List Oper → St → Kw → (List Rec → St → Kw → Tr) → Tr
  | [], s, kw, k => k [] s kw
  | o :: l, s, kw, k =>
    match o.guard with
    | none => opK cx (s.vw cx) o.op kw fun eff kw =>
      match s.app o.dst eff with
      | some s' => opsK cx ops l s' kw fun rs s'' kw => k (⟨o, true, s.heap.length, eff⟩ :: rs) s'' kw
      | none => .stuck 60
    | some (g, b) =>
      match ((ops[g]?).bind (·.dst)).bind (s.tmps[·]?) with
      | some (.one (.bool e)) => decK e (fun x kw =>
        if x == b then opK cx (s.vw cx) o.op kw fun eff kw =>
          match s.app o.dst eff with
          | some s' => opsK cx ops l s' kw fun rs s'' kw => k (⟨o, true, s.heap.length, eff⟩ :: rs) s'' kw
          | none => .stuck 60
        else match s.app o.dst { val := .one .undef } with
          | some s' => opsK cx ops l s' kw fun rs s'' kw => k (⟨o, false, s.heap.length, { val := .one .undef }⟩ :: rs) s'' kw
          | none => .stuck 60) kw
      | some (.one .undef) => match s.app o.dst { val := .one .undef } with
          | some s' => opsK cx ops l s' kw fun rs s'' kw => k (⟨o, false, s.heap.length, { val := .one .undef }⟩ :: rs) s'' kw
          | none => .stuck 60
      | _ => .stuck 61

section
variable {P : Program} {sp : Spec} {ρ : Env} {G : Env → E → Prop} {I : Nat → List Dt → Prop} {cx : Cx} {base : Nat}

theorem opsK_ok (hT : ∀ t i, (t, i) ∈ cx.ty → TIok P t i) (hS : ∀ s ∈ cx.sm, SmOk P sp s) (hkeys : ∀ s ∈ cx.sm, ∀ s' ∈ cx.sm, s.key = s'.key → s = s') {ops : Array Oper} :
    ∀ (l : List Oper) (s : St) (kw : Kw) (k : List Rec → St → Kw → Tr), (opsK cx ops l s kw k).holds sp G ρ I → Good sp cx.sm ρ kw →
      ∃ rs s' kw', (k rs s' kw').holds sp G ρ I ∧ Good sp cx.sm ρ kw' ∧ KwGe kw' kw ∧ rs.map (·.o) = l ∧ s'.fs = full rs s.fs ∧ s'.tmps.length = s.tmps.length ∧ ∀ (m : Nat) r, rs[m]? = some r → RecOk P ρ s.tmps.length base cx.fbs ops r (full (rs.take m) s.fs)
  | [], s, kw, k, h, hg => ⟨[], s, kw, h, hg, .refl _, rfl, rfl, rfl, fun m r hm => by simp at hm⟩
  | o :: l, s, kw, k, h, hg => by
    -- what is common to the ways
    have next : ∀ (want : Bool) (eff : Eff) (kw0 kw : Kw), KwGe kw kw0 → ((match s.app o.dst eff with | some s' => opsK cx ops l s' kw fun rs s'' kw => k (⟨o, want, s.heap.length, eff⟩ :: rs) s'' kw | none => .stuck 60 : Tr)).holds sp G ρ I → Good sp cx.sm ρ kw →
        (∀ s', s.app o.dst eff = some s' → RecOk P ρ s.tmps.length base cx.fbs ops ⟨o, want, s.heap.length, eff⟩ s.fs) →
        ∃ rs s' kw', (k rs s' kw').holds sp G ρ I ∧ Good sp cx.sm ρ kw' ∧ KwGe kw' kw0 ∧ rs.map (·.o) = o :: l ∧ s'.fs = full rs s.fs ∧ s'.tmps.length = s.tmps.length ∧ ∀ (m : Nat) r, rs[m]? = some r → RecOk P ρ s.tmps.length base cx.fbs ops r (full (rs.take m) s.fs) := by
      intro want eff kw0 kw hlv h hg hrec
      split at h
      · rename_i s1 hs1
        obtain ⟨e1, e2, e3, e4, _, _⟩ := St.app_ok hs1
        obtain ⟨rs, s', kw', h1, h2, h0, h3, h4, h5, h6⟩ := opsK_ok hT hS hkeys l s1 kw _ h hg
        refine ⟨⟨o, want, s.heap.length, eff⟩ :: rs, s', kw', h1, h2, h0.trans hlv, by simp [h3], ?_, by rw [h5, e2], fun m r hm => ?_⟩
        · rw [h4, e1]; rfl
        · cases m with
          | zero =>
            simp only [List.getElem?_cons_zero, Option.some.injEq] at hm
            subst hm
            exact hrec s1 hs1
          | succ m =>
            have := h6 m r (by simpa using hm)
            rw [e1, e2] at this
            exact this
      · exact h.elim
    have ran : ∀ (kw0 kw : Kw), KwGe kw kw0 → (opK cx (s.vw cx) o.op kw fun eff kw =>
          match s.app o.dst eff with
          | some s' => opsK cx ops l s' kw fun rs s'' kw => k (⟨o, true, s.heap.length, eff⟩ :: rs) s'' kw
          | none => .stuck 60).holds sp G ρ I → Good sp cx.sm ρ kw →
        (match o.guard with
          | none => True
          | some (g, b) => ∃ t, (ops[g]?).bind (·.dst) = some t ∧ t < s.tmps.length ∧ ∃ e : E, s.fs.tmp t = .one (.bool e) ∧ true = (e.B ρ == b)) →
        ∃ rs s' kw', (k rs s' kw').holds sp G ρ I ∧ Good sp cx.sm ρ kw' ∧ KwGe kw' kw0 ∧ rs.map (·.o) = o :: l ∧ s'.fs = full rs s.fs ∧ s'.tmps.length = s.tmps.length ∧ ∀ (m : Nat) r, rs[m]? = some r → RecOk P ρ s.tmps.length base cx.fbs ops r (full (rs.take m) s.fs) := by
      intro kw0 kw hlv h hg hgd
      obtain ⟨eff, kw1, h1, g1, l1, hok⟩ := opK_ok (P := P) (o := o) (base := base) hT hS hkeys h hg
      refine next true eff kw0 kw1 (l1.trans hlv) h1 g1 (fun s1 hs1 => ?_)
      obtain ⟨e1, e2, e3, e4, e5, e6⟩ := St.app_ok hs1
      refine ⟨fun _ => ⟨s.vw cx, rfl, hok, ⟨fun x hx v hv => by rw [evS_evF]; exact hv, fun p hp c hc => by rw [ldS_ldF]; exact hc, e4, fun _ => (none_at (Nat.le_refl _)).2, fun id hid r hr => by rw [rwS_rwF]; exact hr, e5, rfl, e6⟩⟩, fun h => (by cases h), ?_, e3⟩
      cases hgg : o.guard with
      | none => simp [hgg]
      | some p =>
        obtain ⟨g, b⟩ := p
        simp only [hgg]
        rw [hgg] at hgd
        obtain ⟨t, h2, h3, e, h4, h5⟩ := hgd
        exact ⟨t, h2, h3, .inl ⟨e, h4, h5⟩⟩
    have skipped : ∀ (kw0 kw : Kw) (g : Nat) (b : Bool), KwGe kw kw0 → o.guard = some (g, b) → (match s.app o.dst { val := .one .undef } with
          | some s' => opsK cx ops l s' kw fun rs s'' kw => k (⟨o, false, s.heap.length, { val := .one .undef }⟩ :: rs) s'' kw
          | none => .stuck 60 : Tr).holds sp G ρ I → Good sp cx.sm ρ kw →
        (∃ t, (ops[g]?).bind (·.dst) = some t ∧ t < s.tmps.length ∧ ((∃ e : E, s.fs.tmp t = .one (.bool e) ∧ false = (e.B ρ == b)) ∨ (s.fs.tmp t = .one .undef ∧ false = false))) →
        ∃ rs s' kw', (k rs s' kw').holds sp G ρ I ∧ Good sp cx.sm ρ kw' ∧ KwGe kw' kw0 ∧ rs.map (·.o) = o :: l ∧ s'.fs = full rs s.fs ∧ s'.tmps.length = s.tmps.length ∧ ∀ (m : Nat) r, rs[m]? = some r → RecOk P ρ s.tmps.length base cx.fbs ops r (full (rs.take m) s.fs) := by
      intro kw0 kw g b hlv hgg h hg hgd
      refine next false _ kw0 kw hlv h hg (fun s1 hs1 => ?_)
      obtain ⟨e1, e2, e3, e4, _, _⟩ := St.app_ok hs1
      refine ⟨fun h => (by cases h), fun _ => rfl, ?_, e3⟩
      simp only [hgg]
      obtain ⟨t, h1, h2, h3⟩ := hgd
      exact ⟨t, h1, h2, h3.imp _root_.id (fun h => ⟨h.1, trivial⟩)⟩
    have tmpAt : ∀ (g t : Nat) v, ((ops[g]?).bind (·.dst)).bind (s.tmps[·]?) = some v → ∃ t, (ops[g]?).bind (·.dst) = some t ∧ t < s.tmps.length ∧ s.fs.tmp t = v := by
      intro g _ v h
      rw [Option.bind_eq_some_iff] at h
      obtain ⟨t, h1, h2⟩ := h
      exact ⟨t, h1, (List.getElem?_eq_some_iff.1 h2).1, by simp [St.fs, fsOf, h2]⟩
    unfold opsK at h
    split at h
    · rename_i hgg
      exact ran kw kw (.refl _) h hg (by simp [hgg])
    · rename_i g b hgg
      split at h
      · rename_i e he
        obtain ⟨t, h1, h2, h3⟩ := tmpAt g 0 _ he
        obtain ⟨kw1, h4, g4, _, l4⟩ := decK_ok _ _ _ h hg
        split at h4
        · rename_i hb
          exact ran kw kw1 l4 h4 g4 (by simp only [hgg]; exact ⟨t, h1, h2, e, h3, hb.symm⟩)
        · rename_i hb
          exact skipped kw kw1 g b l4 hgg h4 g4 ⟨t, h1, h2, .inl ⟨e, h3, by simpa using hb⟩⟩
      · rename_i he
        obtain ⟨t, h1, h2, h3⟩ := tmpAt g 0 _ he
        exact skipped kw kw g b (.refl _) hgg h hg ⟨t, h1, h2, .inr ⟨h3, rfl⟩⟩
      · exact h.elim
end
end Go.Proofs.YtcfnglbcgkappaaGreat

/- Loops and joins of a symbolic run: a state of which some numbers are any, and when another state is one of its. Nothing of the program is in here. -/
set_option linter.unusedVariables false
set_option linter.unusedSimpArgs false
namespace Go.Proofs.YtcfnglbcgkappaaGreat
open Go.RowKit

/-! ### Scopes -/
def E.sc (n : Nat) : E → Bool
  | .lit _ | .nil | .tt _ | .lnil => true
  | .var i | .bvar i | .lvar i => Nat.blt i n
  | .bin _ _ a b | .mn a b | .mx a b | .cons a b | .consb a b | .consl a b | .lt a b | .eq a b | .and a b | .beq a b | .lapp a b | .lcat a b | .lrep a b | .ltake a b | .ldrop a b => a.sc n && b.sc n
  | .get a i _ | .getb a i _ => a.sc n && i.sc n
  | .lset a i _ x | .lsetb a i _ x => a.sc n && (i.sc n && x.sc n)
  | .conv _ a | .not a | .len a => a.sc n
theorem E.sc_eq {n : Nat} {ρ ρ' : Env} (h : Ag n ρ ρ') : ∀ e : E, e.sc n = true → e.I ρ = e.I ρ' ∧ e.B ρ = e.B ρ' ∧ e.L ρ = e.L ρ' ∧ e.R ρ = e.R ρ' ∧ e.D ρ = e.D ρ' := by
  intro e
  induction e <;> intro hs <;> simp only [E.sc, Bool.and_eq_true] at hs
  case var i => exact ⟨(h i (by simpa [Nat.blt_eq] using hs)).1, rfl, rfl, rfl, rfl⟩
  case bvar i => exact ⟨rfl, (h i (by simpa [Nat.blt_eq] using hs)).2.1, rfl, rfl, rfl⟩
  case lvar i => exact ⟨rfl, rfl, rfl, (h i (by simpa [Nat.blt_eq] using hs)).2.2, rfl⟩
  case lit => exact ⟨rfl, rfl, rfl, rfl, rfl⟩
  case nil => exact ⟨rfl, rfl, rfl, rfl, rfl⟩
  case lnil => exact ⟨rfl, rfl, rfl, rfl, rfl⟩
  case tt => exact ⟨rfl, rfl, rfl, rfl, rfl⟩
  case conv ih => simp [E.I, E.B, E.L, E.R, E.D, ih hs]
  case not ih => simp [E.I, E.B, E.L, E.R, E.D, ih hs]
  case len ih => simp [E.I, E.B, E.L, E.R, E.D, ih hs]
  case lset ih1 ih2 ih3 => simp [E.I, E.B, E.L, E.R, E.D, ih1 hs.1, ih2 hs.2.1, ih3 hs.2.2]
  case lsetb ih1 ih2 ih3 => simp [E.I, E.B, E.L, E.R, E.D, ih1 hs.1, ih2 hs.2.1, ih3 hs.2.2]
  all_goals
    rename_i ih1 ih2
    simp [E.I, E.B, E.L, E.R, E.D, ih1 hs.1, ih2 hs.2]

/-! ### Numbers given -/
def argE : List VK → List E → E
  | .int _ :: ks, e :: es => .cons e (argE ks es)
  | .bool :: ks, e :: es => .consb e (argE ks es)
  | .list _ :: ks, e :: es => .consl e (argE ks es)
  | _, _ => .nil
/-- An environment in which the numbers from v0 on are given by expressions at another one. -/
structure Giv (v0 : Nat) (vks : List VK) (θ : List E) (ρ ρ' : Env) : Prop where
  ag : Ag v0 ρ ρ'
  i : ∀ m k t, vks[m]? = some (.int k) → θ[m]? = some t → ρ'.i (v0 + m) = t.I ρ
  b : ∀ m t, vks[m]? = some .bool → θ[m]? = some t → ρ'.b (v0 + m) = t.B ρ
  l : ∀ m ks t, vks[m]? = some (.list ks) → θ[m]? = some t → ρ'.l (v0 + m) = t.R ρ
theorem b2i_inj {a b : Bool} (h : b2i a = b2i b) : a = b := by cases a <;> cases b <;> first | rfl | cases h
theorem giv_at {ρ ρ' : Env} : ∀ (vks : List VK) (θ : List E) (n : Nat), θ.length = vks.length → varsD ρ' n vks = (argE vks θ).D ρ → ∀ m t, θ[m]? = some t → (∀ k, vks[m]? = some (.int k) → ρ'.i (n + m) = t.I ρ) ∧ (vks[m]? = some .bool → ρ'.b (n + m) = t.B ρ) ∧ (∀ ks, vks[m]? = some (.list ks) → ρ'.l (n + m) = t.R ρ)
  | [], θ, n, hl, h, m, t, ht => ⟨fun k hk => by simp at hk, fun hk => by simp at hk, fun k hk => by simp at hk⟩
  | vk :: vks, [], n, hl, h, m, t, ht => by cases hl
  | vk :: vks, e :: θ, n, hl, h, m, t, ht => by
    have hl' : θ.length = vks.length := by simpa using hl
    have step : ∀ d, varD ρ' n vk = d → (argE (vk :: vks) (e :: θ)).D ρ = d :: (argE vks θ).D ρ → varsD ρ' (n + 1) vks = (argE vks θ).D ρ := by
      intro d _ h2
      have h3 : varD ρ' n vk :: varsD ρ' (n + 1) vks = (argE (vk :: vks) (e :: θ)).D ρ := h
      rw [h2] at h3
      exact (List.cons.inj h3).2
    cases m with
    | zero =>
      simp only [List.getElem?_cons_zero, Option.some.injEq, Nat.add_zero] at ht ⊢
      subst ht
      have h0 : varD ρ' n vk :: varsD ρ' (n + 1) vks = (argE (vk :: vks) (e :: θ)).D ρ := h
      refine ⟨fun k hk => ?_, fun hk => ?_, fun ks hk => ?_⟩
      · subst hk
        simp only [argE, E.D, varD, List.cons.injEq, Dt.z.injEq] at h0
        exact h0.1
      · subst hk
        simp only [argE, E.D, varD, List.cons.injEq, Dt.z.injEq] at h0
        exact b2i_inj h0.1
      · subst hk
        simp only [argE, E.D, varD, List.cons.injEq, Dt.l.injEq] at h0
        exact h0.1
    | succ m =>
      have h1 : varsD ρ' (n + 1) vks = (argE vks θ).D ρ := by
        have h0 : varD ρ' n vk :: varsD ρ' (n + 1) vks = (argE (vk :: vks) (e :: θ)).D ρ := h
        cases vk <;> simp only [argE, E.D, List.cons.injEq] at h0 <;> exact h0.2
      have := giv_at vks θ (n + 1) hl' h1 m t (by simpa using ht)
      simpa [Nat.add_assoc, Nat.add_comm 1 m] using this
theorem giv_of {ρ ρ' : Env} {v0 : Nat} {vks : List VK} {θ : List E} (hag : Ag v0 ρ ρ') (hl : θ.length = vks.length) (h : varsD ρ' v0 vks = (argE vks θ).D ρ) : Giv v0 vks θ ρ ρ' :=
  ⟨hag, fun m k t hk ht => (giv_at vks θ v0 hl h m t ht).1 k hk, fun m t hk ht => (giv_at vks θ v0 hl h m t ht).2.1 hk, fun m ks t hk ht => (giv_at vks θ v0 hl h m t ht).2.2 ks hk⟩

/-! ### Places -/
def varsA (v : Nat) : List CE → List C × List VK
  | [] => ([], [])
  | some k :: ks => (.int k (.var v) :: (varsA (v + 1) ks).1, .int k :: (varsA (v + 1) ks).2)
  | none :: ks => (.bool (.bvar v) :: (varsA (v + 1) ks).1, .bool :: (varsA (v + 1) ks).2)
def setBox (heap : List Ob) (b o : Nat) (c : C) : Option (List Ob) := match heap[b]? with
  | some (.box cs ty) => if o < cs.length then some (heap.set b (.box (cs.set o c) ty)) else none
  | _ => none
def absP (v0 : Nat) (p : Pl) (x : St × List VK) : Option (St × List VK) :=
  let v := v0 + x.2.length
  match p with
  | .top t => if t < x.1.tmps.length then some ({ x.1 with tmps := x.1.tmps.set t .top }, x.2) else none
  | .tmpI t k => if t < x.1.tmps.length then some ({ x.1 with tmps := x.1.tmps.set t (.one (.int k (.var v))) }, x.2 ++ [.int k]) else none
  | .tmpB t => if t < x.1.tmps.length then some ({ x.1 with tmps := x.1.tmps.set t (.one (.bool (.bvar v))) }, x.2 ++ [.bool]) else none
  | .tmpA t ks => if t < x.1.tmps.length then some ({ x.1 with tmps := x.1.tmps.set t (.agg (varsA v ks).1) }, x.2 ++ (varsA v ks).2) else none
  | .tmpS t ks ty => if t < x.1.tmps.length then some (⟨x.1.tmps.set t (.one (.sl x.1.heap.length)), x.1.heap ++ [.row ⟨ks, ty, .lvar v, true⟩]⟩, x.2 ++ [.list ks]) else none
  | .celI b o k => (setBox x.1.heap b o (.int k (.var v))).map fun h => (⟨x.1.tmps, h⟩, x.2 ++ [.int k])
  | .celB b o => (setBox x.1.heap b o (.bool (.bvar v))).map fun h => (⟨x.1.tmps, h⟩, x.2 ++ [.bool])
  | .celS b o ks ty => (setBox x.1.heap b o (.sl x.1.heap.length)).map fun h => (⟨x.1.tmps, h ++ [.row ⟨ks, ty, .lvar v, true⟩]⟩, x.2 ++ [.list ks])
  | .row id => match x.1.heap[id]? with
    | some (.row r) => some (⟨x.1.tmps, x.1.heap.set id (.row { r with l := .lvar v })⟩, x.2 ++ [.list r.ks])
    | _ => none
  | .gone id => if id < x.1.heap.length then some (⟨x.1.tmps, x.1.heap.set id .gone⟩, x.2) else none
  | .ask => none
def absL (v0 : Nat) : List Pl → St × List VK → Option (St × List VK)
  | [], x => some x
  | p :: l, x => (absP v0 p x).bind (absL v0 l)
/-- What a state has at a place: an expression, or the row. -/
def cellsE : List CE → List C → Option (List E)
  | [], [] => some []
  | some k :: ks, .int k' e :: cs => if kdSame k k' then (cellsE ks cs).map (e :: ·) else none
  | none :: ks, .bool e :: cs => (cellsE ks cs).map (e :: ·)
  | _, _ => none
def rowArg (heap : List Ob) : C → Option (E × Option Nat)
  | .sl id => (rwS heap id).map fun r => (r.l, some id)
  | .nsl => some (.lnil, none)
  | _ => none
def argP (p : Pl) (s : St) : Option (List E × List (Option Nat)) :=
  match p with
  | .top _ => some ([], [])
  | .tmpI t _ => match s.tmps[t]? with | some (.one (.int _ e)) => some ([e], []) | _ => none
  | .tmpB t => match s.tmps[t]? with | some (.one (.bool e)) => some ([e], []) | _ => none
  | .tmpA t ks => match s.tmps[t]? with | some (.agg cs) => (cellsE ks cs).map fun l => (l, []) | _ => none
  | .tmpS t _ _ => match s.tmps[t]? with | some (.one c) => (rowArg s.heap c).map fun x => ([x.1], [x.2]) | _ => none
  | .celI b o _ => match ldS s.heap b o with | some (.int _ e) => some ([e], []) | _ => none
  | .celB b o => match ldS s.heap b o with | some (.bool e) => some ([e], []) | _ => none
  | .celS b o _ _ => match ldS s.heap b o with | some c => (rowArg s.heap c).map fun x => ([x.1], [x.2]) | none => none
  | .row id => (rwS s.heap id).map fun r => ([r.l], [])
  | .gone _ => some ([], [])
  | .ask => none
def argL : List Pl → St → Option (List E × List (Option Nat))
  | [], _ => some ([], [])
  | p :: l, s => match argP p s, argL l s with
    | some x, some y => some (x.1 ++ y.1, x.2 ++ y.2)
    | _, _ => none

/-! ### One state of another one's -/
/-- A match: the numbers from v0 on, what they are given by; h0 elder things lie where they lay, the rows told behind them; the head's heap. -/
structure Mt where
  v0 : Nat
  vks : List VK
  θ : List E
  h0 : Nat
  ex : List (Option Nat)
  hd : List Ob
/-- Where a number of the head's heap lies: nothing for what is gone. -/
def Mt.sig (m : Mt) (a : Nat) : Option (Option Nat) := match m.hd[a]? with
  | some (.box _ _) | some (.row _) => if a < m.h0 then some (some a) else m.ex[a - m.h0]?
  | _ => none
def Mt.okI (m : Mt) (e e' : E) : Bool :=
  match e with
  | .var n => if m.v0 ≤ n then (match m.vks[n - m.v0]?, m.θ[n - m.v0]? with | some (.int _), some t => t.same e' | _, _ => false) else (match e' with | .var n' => Nat.beq n n' | _ => false)
  | e => e.same e' && e.sc m.v0
def Mt.okB (m : Mt) (e e' : E) : Bool :=
  match e with
  | .bvar n => if m.v0 ≤ n then (match m.vks[n - m.v0]?, m.θ[n - m.v0]? with | some .bool, some t => t.same e' | _, _ => false) else (match e' with | .bvar n' => Nat.beq n n' | _ => false)
  | e => e.same e' && e.sc m.v0
def Mt.okR (m : Mt) (e e' : E) : Bool :=
  match e with
  | .lvar n => if m.v0 ≤ n then (match m.vks[n - m.v0]?, m.θ[n - m.v0]? with | some (.list _), some t => t.same e' | _, _ => false) else (match e' with | .lvar n' => Nat.beq n n' | _ => false)
  | e => e.same e' && e.sc m.v0
def Mt.okId (m : Mt) (b b' : Nat) : Bool := match m.sig b with | some (some x) => Nat.beq x b' | _ => false
def Mt.okC (m : Mt) (c d : C) : Bool :=
  match c with
  | .int k e => (match d with | .int k' e' => kdSame k k' && m.okI e e' | _ => false)
  | .bool e => (match d with | .bool e' => m.okB e e' | _ => false)
  | .ptr b o => (match d with | .ptr b' o' => Nat.beq o o' && m.okId b b' | _ => false)
  | .fp b o => (match d with | .fp b' o' => Nat.beq b b' && Nat.beq o o' | _ => false)
  | .fn f => (match d with | .fn f' => Nat.beq f f' | _ => false)
  | .nilp => (match d with | .nilp => true | _ => false)
  | .undef => (match d with | .undef => true | _ => false)
  | .sl id => (match d with | .sl id' => m.okId id id' | .nsl => (match m.sig id with | some none => true | _ => false) | _ => false)
  | .ep id z e o => (match d with | .ep id' z' e' o' => m.okId id id' && (Nat.beq z z' && (m.okI e e' && Nat.beq o o')) | _ => false)
  | .nsl => (match d with | .nsl => true | _ => false)
  | .nilf => (match d with | .nilf => true | _ => false)
def Mt.okCs (m : Mt) : List C → List C → Bool
  | [], [] => true
  | c :: cs, d :: ds => m.okC c d && m.okCs cs ds
  | _, _ => false
def Mt.okT (m : Mt) : List (Bool × List C) → List (Bool × List C) → Bool
  | [], [] => true
  | (t, cs) :: l, (t', ds) :: r => (t == t') && (m.okCs cs ds && m.okT l r)
  | _, _ => false
def Mt.okV (m : Mt) : V → V → Bool
  | .top, _ => true
  | .one c, .one d => m.okC c d
  | .agg cs, .agg ds => m.okCs cs ds
  | .tup l, .tup r => m.okT l r
  | _, _ => false
def Mt.okVs (m : Mt) : List V → List V → Bool
  | [], [] => true
  | v :: l, u :: r => m.okV v u && m.okVs l r
  | _, _ => false
def Mt.okOb (m : Mt) (heap : List Ob) (a : Nat) : Ob → Bool
  | .gone => true
  | .box cs ty => match m.sig a with
    | some (some b) => (match heap[b]? with | some (.box ds ty') => Nat.beq ty ty' && m.okCs cs ds | _ => false)
    | _ => false
  | .row r => match m.sig a with
    | some (some b) => (match heap[b]? with | some (.row q) => ceSame r.ks q.ks && (Nat.beq r.ty q.ty && ((r.own == q.own) && m.okR r.l q.l)) | _ => false)
    | some none => (match r.ks with | [] => false | _ :: _ => m.okR r.l .lnil)
    | none => false
def Mt.okHeap (m : Mt) (heap : List Ob) : Nat → List Ob → Bool
  | _, [] => true
  | a, ob :: l => m.okOb heap a ob && m.okHeap heap (a + 1) l
def Ob.isGone : Ob → Bool
  | .gone => true
  | _ => false
/-- The elder numbers that lie where they lay, and those told, are all different. -/
def exOk (hd : List Ob) (h0 : Nat) : List (Option Nat) → Bool
  | [] => true
  | none :: l => exOk hd h0 l
  | some b :: l => (if b < h0 then (match hd[b]? with | some ob => ob.isGone | none => false) else true) && ((l.all fun x => match x with | some b' => !Nat.beq b b' | none => true) && exOk hd h0 l)
def rngθ (vk : List VK) : List VK → List E → Bool
  | [], [] => true
  | .int k :: ks, e :: es => e.rng vk k && rngθ vk ks es
  | .bool :: ks, _ :: es => rngθ vk ks es
  | .list ks0 :: ks, e :: es => e.lok vk ks0 && rngθ vk ks es
  | _, _ => false
/-- Each list among the numbers is a row's. -/
def lisOk (v0 : Nat) (hd : List Ob) : Nat → List VK → Bool
  | _, [] => true
  | n, .list ks :: l => (hd.any fun ob => match ob with | .row r => (match r.l with | .lvar m => Nat.beq m (v0 + n) | _ => false) && ceSame r.ks ks | _ => false) && lisOk v0 hd (n + 1) l
  | n, _ :: l => lisOk v0 hd (n + 1) l
def Mt.ok (m : Mt) (cx : Cx) (vk : List VK) (tmps : List V) (s : St) : Bool :=
  (m.okVs tmps s.tmps && m.okHeap s.heap 0 m.hd) && (exOk m.hd m.h0 m.ex && ((cx.fb.all fun cs => m.okCs cs cs) && (rngθ vk m.vks m.θ && lisOk m.v0 m.hd 0 m.vks)))

/-! ### That it is -/
section
variable {m : Mt} {ρ ρ' : Env} {j : J}

theorem okI_ok (hg : Giv m.v0 m.vks m.θ ρ ρ') {e e' : E} (h : m.okI e e' = true) : e.I ρ' = e'.I ρ := by
  unfold Mt.okI at h
  split at h
  · rename_i n
    split at h
    · rename_i hn
      split at h
      · rename_i k t hk ht
        have h1 := hg.i _ _ t hk ht
        rw [show m.v0 + (n - m.v0) = n by omega] at h1
        rw [← E.same_eq h]
        exact h1
      · cases h
    · rename_i hn
      split at h
      · rename_i n'
        rw [← Nat.eq_of_beq_eq_true h]
        exact (hg.ag n (by omega)).1.symm
      · cases h
  · rw [Bool.and_eq_true] at h
    rw [← E.same_eq h.1]
    exact (E.sc_eq hg.ag _ h.2).1.symm
theorem okB_ok (hg : Giv m.v0 m.vks m.θ ρ ρ') {e e' : E} (h : m.okB e e' = true) : e.B ρ' = e'.B ρ := by
  unfold Mt.okB at h
  split at h
  · rename_i n
    split at h
    · rename_i hn
      split at h
      · rename_i t hk ht
        have h1 := hg.b _ t hk ht
        rw [show m.v0 + (n - m.v0) = n by omega] at h1
        rw [← E.same_eq h]
        exact h1
      · cases h
    · rename_i hn
      split at h
      · rename_i n'
        rw [← Nat.eq_of_beq_eq_true h]
        exact (hg.ag n (by omega)).2.1.symm
      · cases h
  · rw [Bool.and_eq_true] at h
    rw [← E.same_eq h.1]
    exact (E.sc_eq hg.ag _ h.2).2.1.symm
theorem okR_ok (hg : Giv m.v0 m.vks m.θ ρ ρ') {e e' : E} (h : m.okR e e' = true) : e.R ρ' = e'.R ρ := by
  unfold Mt.okR at h
  split at h
  · rename_i n
    split at h
    · rename_i hn
      split at h
      · rename_i ks t hk ht
        have h1 := hg.l _ _ t hk ht
        rw [show m.v0 + (n - m.v0) = n by omega] at h1
        rw [← E.same_eq h]
        exact h1
      · cases h
    · rename_i hn
      split at h
      · rename_i n'
        rw [← Nat.eq_of_beq_eq_true h]
        exact (hg.ag n (by omega)).2.2.symm
      · cases h
  · rw [Bool.and_eq_true] at h
    rw [← E.same_eq h.1]
    exact (E.sc_eq hg.ag _ h.2).2.2.2.1.symm

def nilSV : SV := ⟨none, 0, 0⟩
theorem nil_blk {o : Bool} {k : Nat} : ¬ nilSV.blk o = some k := fun h => by have := blk_some h; cases this
/-- Where the head's boxes and rows are. -/
def Mt.J (m : Mt) (j : J) : J :=
  ⟨fun b => match m.sig b with | some (some x) => j.b x | _ => none, fun id => match m.sig id with | some (some x) => j.s x | some none => some nilSV | none => none, j.f⟩
theorem okId_b {b b' : Nat} (h : m.okId b b' = true) : (m.J j).b b = j.b b' ∧ (m.J j).s b = j.s b' := by
  unfold Mt.okId at h
  split at h
  · rename_i x hx
    rw [← Nat.eq_of_beq_eq_true h]
    simp only [Mt.J, hx, and_self]
  · cases h
theorem okC_ok (hg : Giv m.v0 m.vks m.θ ρ ρ') {c d : C} (h : m.okC c d = true) {v : Value} (hd : d.den ρ j = some v) : c.den ρ' (m.J j) = some v := by
  cases c with
  | int k e =>
    simp only [Mt.okC] at h
    split at h
    · simp only [Bool.and_eq_true] at h
      simp only [C.den] at hd ⊢
      rw [kdSame_eq h.1, okI_ok hg h.2]; exact hd
    · cases h
  | bool e =>
    simp only [Mt.okC] at h
    split at h
    · simp only [C.den] at hd ⊢; rw [okB_ok hg h]; exact hd
    · cases h
  | ptr b o =>
    simp only [Mt.okC] at h
    split at h
    · simp only [Bool.and_eq_true] at h
      simp only [C.den] at hd ⊢
      rw [Nat.eq_of_beq_eq_true h.1, (okId_b h.2).1]; exact hd
    · cases h
  | fp b o =>
    simp only [Mt.okC] at h
    split at h
    · simp only [Bool.and_eq_true] at h
      rw [Nat.eq_of_beq_eq_true h.1, Nat.eq_of_beq_eq_true h.2]; exact hd
    · cases h
  | fn f =>
    simp only [Mt.okC] at h
    split at h
    · rw [Nat.eq_of_beq_eq_true h]; exact hd
    · cases h
  | nilp => simp only [Mt.okC] at h; split at h <;> first | exact hd | cases h
  | undef => simp only [Mt.okC] at h; split at h <;> first | exact hd | cases h
  | nsl => simp only [Mt.okC] at h; split at h <;> first | exact hd | cases h
  | nilf => simp only [Mt.okC] at h; split at h <;> first | exact hd | cases h
  | sl id =>
    simp only [Mt.okC] at h
    split at h
    · simp only [C.den] at hd ⊢
      rw [(okId_b h).2]; exact hd
    · split at h
      · rename_i hs
        cases hd
        simp only [C.den, Mt.J, hs]
        rfl
      · cases h
    · cases h
  | ep id z e o =>
    simp only [Mt.okC] at h
    split at h
    · simp only [Bool.and_eq_true] at h
      simp only [C.den] at hd ⊢
      rw [(okId_b h.1).2, Nat.eq_of_beq_eq_true h.2.1, okI_ok hg h.2.2.1, Nat.eq_of_beq_eq_true h.2.2.2]; exact hd
    · cases h
theorem okCs_ok (hg : Giv m.v0 m.vks m.θ ρ ρ') : ∀ {cs ds : List C}, m.okCs cs ds = true → ∀ {vs : List Value}, denL ρ j ds = some vs → denL ρ' (m.J j) cs = some vs
  | [], [], _, vs, h => h
  | c :: cs, d :: ds, h, vs, hd => by
    simp only [Mt.okCs, Bool.and_eq_true] at h
    simp only [denL] at hd ⊢
    cases hc : d.den ρ j with
    | none => rw [hc] at hd; cases hd
    | some v =>
      cases hl : denL ρ j ds with
      | none => rw [hc, hl] at hd; cases hd
      | some l =>
        rw [hc, hl] at hd
        rw [okC_ok hg h.1 hc, okCs_ok hg h.2 hl]
        exact hd
theorem okT_ok (hg : Giv m.v0 m.vks m.θ ρ ρ') : ∀ {cs ds : List (Bool × List C)}, m.okT cs ds = true → ∀ {vs : List Value}, den0L ρ j ds = some vs → den0L ρ' (m.J j) cs = some vs
  | [], [], _, vs, h => h
  | (t, cs) :: l, (t', ds) :: r, h, vs, hd => by
    simp only [Mt.okT, Bool.and_eq_true, beq_iff_eq] at h
    obtain ⟨rfl, h1, h2⟩ := h
    simp only [den0L] at hd ⊢
    cases hc : den0 ρ j (t, ds) with
    | none => rw [hc] at hd; cases hd
    | some v =>
      cases hl : den0L ρ j r with
      | none => rw [hc, hl] at hd; cases hd
      | some us =>
        rw [hc, hl] at hd
        have h3 : den0 ρ' (m.J j) (t, cs) = some v := by
          cases t with
          | true =>
            simp only [den0, Option.map_eq_some_iff] at hc ⊢
            obtain ⟨vs', hv, rfl⟩ := hc
            exact ⟨vs', okCs_ok hg h1 hv, rfl⟩
          | false =>
            match ds, hc with
            | [d], hc =>
              match cs, h1 with
              | [c], h1 =>
                simp only [Mt.okCs, Bool.and_true] at h1
                exact okC_ok hg h1 hc
              | _ :: _ :: _, h1 => simp [Mt.okCs] at h1
        rw [h3, okT_ok hg h2 hl]
        exact hd
theorem okV_ok (hg : Giv m.v0 m.vks m.θ ρ ρ') {x y : V} (h : m.okV x y = true) : x = .top ∨ (y ≠ .top ∧ ∀ {v}, y.den ρ j = some v → x.den ρ' (m.J j) = some v) := by
  unfold Mt.okV at h
  split at h
  · exact .inl rfl
  · exact .inr ⟨fun e => (by cases e), fun hd => okC_ok hg h hd⟩
  · refine .inr ⟨fun e => (by cases e), fun hd => ?_⟩
    simp only [V.den, Option.map_eq_some_iff] at hd ⊢
    obtain ⟨l, hl, rfl⟩ := hd
    exact ⟨l, okCs_ok hg h hl, rfl⟩
  · refine .inr ⟨fun e => (by cases e), fun hd => ?_⟩
    simp only [V.den, Option.map_eq_some_iff] at hd ⊢
    obtain ⟨l, hl, rfl⟩ := hd
    exact ⟨l, okT_ok hg h hl, rfl⟩
  · cases h
theorem okVs_at : ∀ {l r : List V}, m.okVs l r = true → l.length = r.length ∧ ∀ (i : Nat) x y, l[i]? = some x → r[i]? = some y → m.okV x y = true
  | [], [], _ => ⟨rfl, fun i x y h => by simp at h⟩
  | v :: l, u :: r, h => by
    simp only [Mt.okVs, Bool.and_eq_true] at h
    obtain ⟨h1, h2⟩ := okVs_at h.2
    refine ⟨by simp [h1], fun i x y hx hy => ?_⟩
    cases i with
    | zero => simp at hx hy; subst hx; subst hy; exact h.1
    | succ i => exact h2 i x y (by simpa using hx) (by simpa using hy)
theorem okHeap_at {heap : List Ob} : ∀ {l : List Ob} {a : Nat}, m.okHeap heap a l = true → ∀ (i : Nat) ob, l[i]? = some ob → m.okOb heap (a + i) ob = true
  | [], a, _, i, ob, hi => by simp at hi
  | x :: l, a, h, i, ob, hi => by
    simp only [Mt.okHeap, Bool.and_eq_true] at h
    cases i with
    | zero => simp at hi; subst hi; exact h.1
    | succ i =>
      have := okHeap_at h.2 i ob (by simpa using hi)
      rwa [show a + (i + 1) = a + 1 + i by omega]
theorem exOk_at {hd : List Ob} {h0 : Nat} : ∀ {ex : List (Option Nat)}, exOk hd h0 ex = true → (∀ (i : Nat) b, ex[i]? = some (some b) → b < h0 → ∃ ob, hd[b]? = some ob ∧ ob.isGone = true) ∧ ∀ (i i' : Nat) b, ex[i]? = some (some b) → ex[i']? = some (some b) → i = i'
  | [], _ => ⟨fun i b h => by simp at h, fun i i' b h => by simp at h⟩
  | x :: l, h => by
    have key : exOk hd h0 l = true ∧ ∀ b, x = some b → (b < h0 → ∃ ob, hd[b]? = some ob ∧ ob.isGone = true) ∧ ∀ (i : Nat), l[i]? ≠ some (some b) := by
      cases x with
      | none => exact ⟨h, fun b hb => by cases hb⟩
      | some b =>
        simp only [exOk, Bool.and_eq_true] at h
        refine ⟨h.2.2, fun b' hb => ?_⟩
        cases hb
        refine ⟨fun hlt => ?_, fun i hi => ?_⟩
        · have h1 := h.1
          rw [if_pos hlt] at h1
          split at h1
          · rename_i ob hob; exact ⟨ob, hob, h1⟩
          · cases h1
        · have h2 := List.all_eq_true.1 h.2.1 _ (List.mem_of_getElem? hi)
          simp at h2
    obtain ⟨k1, k2⟩ := key
    obtain ⟨g1, g2⟩ := exOk_at k1
    refine ⟨fun i b hi hb => ?_, fun i i' b hi hi' => ?_⟩
    · cases i with
      | zero => simp at hi; exact (k2 b hi).1 hb
      | succ i => exact g1 i b (by simpa using hi) hb
    · cases i with
      | zero =>
        simp at hi
        cases i' with
        | zero => rfl
        | succ i' => exact absurd (by simpa using hi') ((k2 b hi).2 i')
      | succ i =>
        cases i' with
        | zero =>
          simp at hi'
          exact absurd (by simpa using hi) ((k2 b hi').2 i)
        | succ i' => rw [g2 i i' b (by simpa using hi) (by simpa using hi')]
theorem sig_inj (h : exOk m.hd m.h0 m.ex = true) {a a' x : Nat} (h1 : m.sig a = some (some x)) (h2 : m.sig a' = some (some x)) : a = a' := by
  obtain ⟨g1, g2⟩ := exOk_at h
  have key : ∀ a, m.sig a = some (some x) → (a < m.h0 ∧ a = x ∧ ∃ ob, m.hd[a]? = some ob ∧ ob.isGone = false) ∨ (m.h0 ≤ a ∧ m.ex[a - m.h0]? = some (some x)) := by
    intro a ha
    unfold Mt.sig at ha
    split at ha
    all_goals first
      | cases ha; done
      | split at ha
        · rename_i hob hlt
          cases ha
          exact .inl ⟨hlt, rfl, _, hob, rfl⟩
        · exact .inr ⟨by omega, ha⟩
  rcases key a h1 with ⟨k1, k2, ob, k3, k4⟩ | ⟨k1, k2⟩ <;> rcases key a' h2 with ⟨l1, l2, ob', l3, l4⟩ | ⟨l1, l2⟩
  · omega
  · subst k2
    obtain ⟨ob1, q1, q2⟩ := g1 _ _ l2 k1
    rw [k3] at q1; cases q1
    rw [k4] at q2; cases q2
  · subst l2
    obtain ⟨ob1, q1, q2⟩ := g1 _ _ k2 l1
    rw [l3] at q1; cases q1
    rw [l4] at q2; cases q2
  · have := g2 _ _ _ k2 l2
    omega

theorem okHeap_hd {heap : List Ob} (h : m.okHeap heap 0 m.hd = true) {a : Nat} {ob : Ob} (ha : m.hd[a]? = some ob) : m.okOb heap a ob = true := by
  have := okHeap_at h a ob ha
  rwa [Nat.zero_add] at this
/-- The state is one of the head's. -/
theorem match_rel {cx : Cx} {vk : List VK} {tmps : List V} {s : St} {n : Nat} {W0 w : World} {a : Act} (hok : m.ok cx vk tmps s = true) (hg : Giv m.v0 m.vks m.θ ρ ρ') (h : Rel ρ n W0 cx.fbs s.fs j a w) : Rel ρ' n W0 cx.fbs (St.mk tmps m.hd).fs (m.J j) a w := by
  simp only [Mt.ok, Bool.and_eq_true] at hok
  obtain ⟨⟨hT, hH⟩, hX, hF, -, -⟩ := hok
  obtain ⟨hl, hat⟩ := okVs_at hT
  have sigRow : ∀ {b : Nat} {ob : Ob}, s.heap[b]? = some ob → ∀ {cs ty}, ob = .box cs ty → s.fs.row b = none := fun hb _ _ e => by
    subst e; simp only [St.fs, fsOf, rowH, hb]
  have sigBox : ∀ {b : Nat} {ob : Ob}, s.heap[b]? = some ob → ∀ {r}, ob = .row r → s.fs.box b = none := fun hb _ e => by
    subst e; simp only [St.fs, fsOf, boxH, hb]
  -- what the head has at a number, and where it lies
  have boxAt : ∀ {b cs ty}, m.hd[b]? = some (.box cs ty) → ∃ x ds, m.sig b = some (some x) ∧ s.heap[x]? = some (.box ds ty) ∧ m.okCs cs ds = true := by
    intro b cs ty hb
    have h1 := okHeap_hd hH hb
    simp only [Mt.okOb] at h1
    split at h1
    · rename_i x hx
      split at h1
      · rename_i ds ty' hds
        simp only [Bool.and_eq_true] at h1
        have := Nat.eq_of_beq_eq_true h1.1
        subst this
        exact ⟨x, ds, hx, hds, h1.2⟩
      · cases h1
    · cases h1
  have rowAt : ∀ {b r}, m.hd[b]? = some (.row r) → (∃ x q, m.sig b = some (some x) ∧ s.heap[x]? = some (.row q) ∧ r.ks = q.ks ∧ r.ty = q.ty ∧ r.own = q.own ∧ r.l.R ρ' = q.l.R ρ) ∨ (m.sig b = some none ∧ 0 < r.ks.length ∧ r.l.R ρ' = []) := by
    intro b r hb
    have h1 := okHeap_hd hH hb
    simp only [Mt.okOb] at h1
    split at h1
    · rename_i x hx
      split at h1
      · rename_i q hq
        simp only [Bool.and_eq_true, beq_iff_eq] at h1
        exact .inl ⟨x, q, hx, hq, ceSame_eq h1.1, Nat.eq_of_beq_eq_true h1.2.1, h1.2.2.1, okR_ok hg h1.2.2.2⟩
      · cases h1
    · rename_i hx
      split at h1
      · cases h1
      · rename_i k ks hk
        exact .inr ⟨hx, by rw [hk]; simp, okR_ok hg h1⟩
    · cases h1
  have noneSig : ∀ {b}, (∀ cs ty, m.hd[b]? ≠ some (.box cs ty)) → (∀ r, m.hd[b]? ≠ some (.row r)) → m.sig b = none := by
    intro b h1 h2
    unfold Mt.sig
    split
    · rename_i hb; exact absurd hb (h1 _ _)
    · rename_i hb; exact absurd hb (h2 _)
    · rfl
  have fsBox : ∀ b cs ty, (St.mk tmps m.hd).fs.box b = some (cs, ty) → m.hd[b]? = some (.box cs ty) := by
    intro b cs ty hb
    simp only [St.fs, fsOf, boxH] at hb
    split at hb
    · rename_i cs' ty' hb'; cases hb; exact hb'
    · cases hb
  have fsRow : ∀ b r, (St.mk tmps m.hd).fs.row b = some (some r) → m.hd[b]? = some (.row r) := by
    intro b r hb
    simp only [St.fs, fsOf, rowH] at hb
    split at hb
    · rename_i r' hb'; cases hb; exact hb'
    · cases hb
    · cases hb
  have rowBack : ∀ {x q}, s.heap[x]? = some (.row q) → s.fs.row x = some (some q) := fun hx => by simp only [St.fs, fsOf, rowH, hx]
  have boxBack : ∀ {x cs ty}, s.heap[x]? = some (.box cs ty) → s.fs.box x = some (cs, ty) := fun hx => by simp only [St.fs, fsOf, boxH, hx]
  refine ⟨h.defers, h.size, fun t ht => ?_, fun b cs ty hb => ?_, fun b hb => ?_, fun b b' k hb hb' => ?_, fun b r hb => ?_, fun b hb => ?_, fun b b' k r v hb hr hs hk => ?_, fun b b' r r' v v' k hr ho hr' hs hs' hk hk' => ?_, fun b cs hb => ?_, h.ext⟩
  · obtain ⟨v, h1, h2⟩ := h.tmp t ht
    refine ⟨v, h1, ?_⟩
    rcases Nat.lt_or_ge t tmps.length with h3 | h3
    · have h4 : s.tmps[t]? = some (s.tmps[t]'(by omega)) := List.getElem?_eq_getElem _
      have h5 := hat t _ _ (List.getElem?_eq_getElem h3) h4
      have e1 : (St.mk tmps m.hd).fs.tmp t = tmps[t] := by simp [St.fs, fsOf, List.getElem?_eq_getElem h3]
      have e2 : s.fs.tmp t = s.tmps[t]'(by omega) := by simp only [St.fs, fsOf, h4]; rfl
      rw [e1]
      rw [e2] at h2
      rcases okV_ok hg (j := j) h5 with h6 | ⟨h6, h7⟩
      · exact .inl h6
      · rcases h2 with h2 | h2
        · exact absurd h2 h6
        · exact .inr (h7 h2)
    · have e1 : (St.mk tmps m.hd).fs.tmp t = .one .undef := by simp only [St.fs, fsOf]; rw [List.getElem?_eq_none h3]; rfl
      have e2 : s.fs.tmp t = .one .undef := by simp only [St.fs, fsOf]; rw [List.getElem?_eq_none (by omega)]; rfl
      rw [e1]
      rw [e2] at h2
      rcases h2 with h2 | h2
      · cases h2
      · exact .inr h2
  · obtain ⟨x, ds, h1, h2, h3⟩ := boxAt (fsBox b cs ty hb)
    obtain ⟨k, vs, h4, h5, h6, h7⟩ := h.box x ds ty (boxBack h2)
    exact ⟨k, vs, by simp only [Mt.J, h1]; exact h4, h5, okCs_ok hg h3 h6, h7⟩
  · simp only [Mt.J]
    cases hs : m.hd[b]? with
    | none => rw [noneSig (by rw [hs]; intros; simp) (by rw [hs]; intros; simp)]
    | some ob =>
      cases ob with
      | box cs ty => simp [St.fs, fsOf, boxH, hs] at hb
      | gone => rw [noneSig (by rw [hs]; intros; simp) (by rw [hs]; intros; simp)]
      | row r =>
        rcases rowAt hs with ⟨x, q, h1, h2, _⟩ | ⟨h1, _⟩
        · rw [h1]; exact h.nob x (sigBox h2 rfl)
        · rw [h1]
  · simp only [Mt.J] at hb hb'
    split at hb <;> first | cases hb; done | skip
    rename_i x hx
    split at hb' <;> first | cases hb'; done | skip
    rename_i x' hx'
    have := h.inj x x' k hb hb'
    subst this
    exact sig_inj hX hx hx'
  · rcases rowAt (fsRow b r hb) with ⟨x, q, h1, h2, e1, e2, e3, e4⟩ | ⟨h1, h2, h3⟩
    · obtain ⟨v, h5, h6⟩ := h.row x q (rowBack h2)
      refine ⟨v, by simp only [Mt.J, h1]; exact h5, ?_, ?_, ?_, by rw [e3]; exact h6.lt, fun ho => ?_, ?_⟩
      · rw [e4]; exact h6.n
      · rw [e1, e4]; exact h6.rows
      · rw [e1]; exact h6.pos
      · rw [e1, e2, e4]; exact h6.own (by rw [← e3]; exact ho)
      · rw [e1, e4]; exact h6.rd
    · refine ⟨nilSV, by simp only [Mt.J, h1], by rw [h3]; rfl, by rw [h3]; exact ⟨fun r hr => (by cases hr), by simp⟩, h2, fun k hk => absurd hk nil_blk, fun _ => (by rw [h3]; exact World.ownsRow_nil _ _ _ _), ?_⟩
      rw [h3]
      exact ⟨by simp [flat, nilSV], Nat.le_refl _, by simp [nilSV, maxLen], fun _ => ⟨rfl, rfl⟩, fun a ha => (by cases ha)⟩
  · simp only [Mt.J]
    cases hs : m.hd[b]? with
    | none => rw [noneSig (by rw [hs]; intros; simp) (by rw [hs]; intros; simp)]
    | some ob =>
      cases ob with
      | row r => simp [St.fs, fsOf, rowH, hs] at hb
      | gone => simp [St.fs, fsOf, rowH, hs] at hb
      | box cs ty =>
        obtain ⟨x, ds, h1, h2, h3⟩ := boxAt hs
        rw [h1]; exact h.nor x (sigRow h2 rfl)
  · simp only [Mt.J] at hb hs
    split at hb <;> first | cases hb; done | skip
    rename_i x hx
    rcases rowAt (fsRow b' r hr) with ⟨x', q, h1, h2, _, _, e3, _⟩ | ⟨h1, _⟩
    · rw [h1] at hs
      exact h.sep x x' k q v hb (rowBack h2) hs (by rw [← e3]; exact hk)
    · rw [h1] at hs
      cases hs
      exact nil_blk hk
  · simp only [Mt.J] at hs hs'
    rcases rowAt (fsRow b r hr) with ⟨x, q, h1, h2, _, _, e3, _⟩ | ⟨h1, _⟩
    · rcases rowAt (fsRow b' r' hr') with ⟨x', q', h1', h2', _, _, e3', _⟩ | ⟨h1', _⟩
      · rw [h1] at hs
        rw [h1'] at hs'
        have := h.rsep x x' q q' v v' k (rowBack h2) (by rw [← e3]; exact ho) (rowBack h2') hs hs' (by rw [← e3]; exact hk) (by rw [← e3']; exact hk')
        subst this
        exact sig_inj hX h1 h1'
      · rw [h1'] at hs'
        cases hs'
        exact absurd hk' nil_blk
    · rw [h1] at hs
      cases hs
      exact absurd hk nil_blk
  · obtain ⟨k, vs, h1, h2, h3, h4⟩ := h.fb b cs hb
    refine ⟨k, vs, h1, h2, okCs_ok hg ?_ h3, h4⟩
    exact List.all_eq_true.1 hF cs (List.mem_of_getElem? hb)

/-- An environment in which the numbers are given. -/
def givE (v0 : Nat) (θ : List E) (ρ : Env) : Env :=
  ⟨fun i => if v0 ≤ i then (match θ[i - v0]? with | some t => t.I ρ | none => 0) else ρ.i i, fun i => if v0 ≤ i then (match θ[i - v0]? with | some t => t.B ρ | none => false) else ρ.b i, fun i => if v0 ≤ i then (match θ[i - v0]? with | some t => t.R ρ | none => []) else ρ.l i⟩
theorem givE_ok (v0 : Nat) (vks : List VK) (θ : List E) (ρ : Env) : Giv v0 vks θ ρ (givE v0 θ ρ) := by
  refine ⟨fun i hi => ?_, fun m k t _ ht => ?_, fun m t _ ht => ?_, fun m ks t _ ht => ?_⟩
  · have : ¬ v0 ≤ i := by omega
    simp [givE, this]
  all_goals simp [givE, ht]
theorem rngθ_len {vk : List VK} : ∀ {vks : List VK} {θ : List E}, rngθ vk vks θ = true → θ.length = vks.length
  | [], [], _ => rfl
  | .int k :: ks, e :: es, h => by simp only [rngθ, Bool.and_eq_true] at h; simp [rngθ_len h.2]
  | .bool :: ks, e :: es, h => by simp only [rngθ] at h; simp [rngθ_len h]
  | .list k :: ks, e :: es, h => by simp only [rngθ, Bool.and_eq_true] at h; simp [rngθ_len h.2]
  | .int _ :: _, [], h => by cases h
  | .bool :: _, [], h => by cases h
  | .list _ :: _, [], h => by cases h
theorem rngθ_ok {vk : List VK} (hv : Vk ρ vk) : ∀ {vks : List VK} {θ : List E}, rngθ vk vks θ = true → (∀ (i : Nat) ks t, vks[i]? = some (.list ks) → θ[i]? = some t → (t.R ρ).length ≤ maxLen) → okDs vks ((argE vks θ).D ρ)
  | [], [], _, _ => trivial
  | .int k :: ks, e :: es, h, hl => by
    simp only [rngθ, Bool.and_eq_true] at h
    exact ⟨E.rng_ok hv e h.1, rngθ_ok hv h.2 (fun i k t h1 h2 => hl (i + 1) k t (by simpa using h1) (by simpa using h2))⟩
  | .bool :: ks, e :: es, h, hl => by
    simp only [rngθ] at h
    refine ⟨?_, rngθ_ok hv h (fun i k t h1 h2 => hl (i + 1) k t (by simpa using h1) (by simpa using h2))⟩
    show b2i (e.B ρ) = 0 ∨ b2i (e.B ρ) = 1
    cases e.B ρ <;> simp [b2i]
  | .list k :: ks, e :: es, h, hl => by
    simp only [rngθ, Bool.and_eq_true] at h
    exact ⟨⟨E.lok_ok hv e h.1, hl 0 k e rfl rfl⟩, rngθ_ok hv h.2 (fun i k t h1 h2 => hl (i + 1) k t (by simpa using h1) (by simpa using h2))⟩
  | .int _ :: _, [], h, _ => by cases h
  | .bool :: _, [], h, _ => by cases h
  | .list _ :: _, [], h, _ => by cases h
theorem lisOk_at {v0 : Nat} {hd : List Ob} : ∀ {vks : List VK} {n : Nat}, lisOk v0 hd n vks = true → ∀ (i : Nat) ks, vks[i]? = some (.list ks) → ∃ r : RowOb, .row r ∈ hd ∧ r.l = .lvar (v0 + (n + i))
  | [], n, _, i, ks, hi => by simp at hi
  | k :: l, n, h, i, ks, hi => by
    cases i with
    | zero =>
      simp only [List.getElem?_cons_zero, Option.some.injEq] at hi
      subst hi
      simp only [lisOk, Bool.and_eq_true, List.any_eq_true] at h
      obtain ⟨ob, h1, h2⟩ := h.1
      split at h2
      · rename_i r
        rw [Bool.and_eq_true] at h2
        have h3 := h2.1
        split at h3
        · rename_i m hm
          exact ⟨r, h1, by rw [hm, Nat.eq_of_beq_eq_true h3]; rfl⟩
        · cases h3
      · cases h2
    | succ i =>
      have h' : lisOk v0 hd (n + 1) l = true := by
        cases k <;> first | exact h | (simp only [lisOk, Bool.and_eq_true] at h; exact h.2)
      obtain ⟨r, h1, h2⟩ := lisOk_at h' i ks (by simpa using hi)
      exact ⟨r, h1, by rw [h2]; congr 1; omega⟩
theorem match_okDs {cx : Cx} {vk : List VK} {tmps : List V} {s : St} {n : Nat} {W0 w : World} {a : Act} (hok : m.ok cx vk tmps s = true) (hv : Vk ρ vk) (h : Rel ρ n W0 cx.fbs s.fs j a w) : m.θ.length = m.vks.length ∧ okDs m.vks ((argE m.vks m.θ).D ρ) := by
  have hrel := match_rel hok (givE_ok m.v0 m.vks m.θ ρ) h
  simp only [Mt.ok, Bool.and_eq_true] at hok
  obtain ⟨_, _, _, hR, hL⟩ := hok
  refine ⟨rngθ_len hR, rngθ_ok hv hR (fun i ks t hi ht => ?_)⟩
  obtain ⟨r, h1, h2⟩ := lisOk_at hL i ks hi
  obtain ⟨b, hb, he⟩ := List.getElem_of_mem h1
  have hrow : (St.mk tmps m.hd).fs.row b = some (some r) := by simp [St.fs, fsOf, rowH, List.getElem?_eq_getElem hb, he]
  obtain ⟨v, _, h3⟩ := hrel.row b r hrow
  have h4 := h3.rows.len
  rw [h2, Nat.zero_add] at h4
  have h5 := (givE_ok m.v0 m.vks m.θ ρ).l i ks t hi ht
  simp only [E.R] at h4
  rw [h5] at h4
  exact h4
end
end Go.Proofs.YtcfnglbcgkappaaGreat

/- The symbolic run of a function's whole code, with loops and joins, and that it is sound. Nothing of the program is in here. -/
set_option linter.unusedVariables false
set_option linter.unusedSimpArgs false
namespace Go.Proofs.YtcfnglbcgkappaaGreat
open Go.RowKit

/-! ### The order of a drawn region -/
def maskOf (o : Oper) (ms : List Nat) : Nat :=
  o.after.toList.foldl (fun m e => if Region.binds .any e then m ||| (2 ^ e.on ||| ms.getD e.on 0) else m) 0
def pairsOk (ops : Array Oper) (r : Rec) (m : Nat) : Nat → List Rec → Bool
  | _, [] => true
  | k, x :: pre => (m.testBit k || indep ops x r) && pairsOk ops r m (k + 1) pre
def ordK (ops : Array Oper) : List Rec → Nat → List Rec → List Nat → Bool
  | [], _, _, _ => true
  | r :: l, i, pre, ms =>
    (r.o.after.toList.all fun e => !Region.binds .any e || decide (e.on < i)) && (pairsOk ops r (maskOf r.o ms) 0 pre && ordK ops l (i + 1) (pre ++ [r]) (ms ++ [maskOf r.o ms]))

section
variable {ops : Array Oper}

theorem mask_bit {ms : List Nat} {k : Nat} : ∀ (l : List Edge) (m0 : Nat), (l.foldl (fun m e => if Region.binds .any e then m ||| (2 ^ e.on ||| ms.getD e.on 0) else m) m0).testBit k = true →
    m0.testBit k = true ∨ ∃ e ∈ l, Region.binds .any e = true ∧ (k = e.on ∨ (ms.getD e.on 0).testBit k = true)
  | [], m0, h => .inl h
  | e :: l, m0, h => by
    simp only [List.foldl_cons] at h
    rcases mask_bit l _ h with h1 | ⟨e', h1, h2⟩
    · split at h1
      · rename_i hb
        rw [Nat.testBit_or, Nat.testBit_or, Nat.testBit_two_pow, Bool.or_eq_true, Bool.or_eq_true, decide_eq_true_eq] at h1
        rcases h1 with h1 | h1 | h1
        · exact .inl h1
        · exact .inr ⟨e, List.mem_cons_self, hb, .inl h1.symm⟩
        · exact .inr ⟨e, List.mem_cons_self, hb, .inr h1⟩
      · exact .inl h1
    · exact .inr ⟨e', List.mem_cons_of_mem _ h1, h2⟩

theorem pairs_at {r : Rec} {m : Nat} : ∀ (pre : List Rec) (k0 : Nat), pairsOk ops r m k0 pre = true → ∀ (k : Nat) x, pre[k]? = some x → m.testBit (k0 + k) = true ∨ Indep ops x r
  | y :: pre, k0, h, k, x, hk => by
    simp only [pairsOk, Bool.and_eq_true, Bool.or_eq_true] at h
    cases k with
    | zero =>
      simp only [List.getElem?_cons_zero, Option.some.injEq] at hk
      subst hk
      exact h.1.imp id indep_ok
    | succ k =>
      have := pairs_at pre (k0 + 1) h.2 k x (by simpa using hk)
      rwa [Nat.add_assoc, Nat.add_comm 1 k] at this
  | [], _, _, k, x, hk => by simp at hk

theorem ordK_ok (hidx : ∀ (i : Nat) r, ∀ L : List Rec, ops.toList = L.map (·.o) → L[i]? = some r → ops[i]? = some r.o) : ∀ (post pre : List Rec) (ms : List Nat), ops.toList = (pre ++ post).map (·.o) → ordK ops post pre.length pre ms = true → ms.length = pre.length →
    (∀ (i : Nat), i < ms.length → ∀ k, (ms.getD i 0).testBit k = true → ∀ sel, Closed ops sel → (∀ o, ops[i]? = some o → ∀ e ∈ o.after, Region.binds .any e = true → sel e.on = true) → sel k = true) →
    (∀ (i : Nat) r, pre.length ≤ i → (pre ++ post)[i]? = some r → ∀ e ∈ r.o.after, Region.binds .any e = true → e.on < i) ∧
    (∀ (k i : Nat) x r, k < i → pre.length ≤ i → (pre ++ post)[k]? = some x → (pre ++ post)[i]? = some r → Indep ops x r ∨ ∀ sel, Closed ops sel → (∀ o, ops[i]? = some o → ∀ e ∈ o.after, Region.binds .any e = true → sel e.on = true) → sel k = true)
  | [], pre, ms, hl, h, hm, hms => by
    have none : ∀ (i : Nat) r, pre.length ≤ i → ¬ (pre ++ [])[i]? = some r := fun i r hi hr => by
      rw [List.append_nil, List.getElem?_eq_none hi] at hr; cases hr
    exact ⟨fun i r hi hr => absurd hr (none i r hi), fun k i x r _ hi _ hr => absurd hr (none i r hi)⟩
  | r0 :: post, pre, ms, hl, h, hm, hms => by
    simp only [ordK, Bool.and_eq_true] at h
    obtain ⟨h1, h2, h3⟩ := h
    have e1 : pre ++ r0 :: post = (pre ++ [r0]) ++ post := by simp
    have at0 : ops[pre.length]? = some r0.o := hidx pre.length r0 _ hl (by simp)
    have hmask : ∀ k, (maskOf r0.o ms).testBit k = true → ∀ sel, Closed ops sel → (∀ o, ops[pre.length]? = some o → ∀ e ∈ o.after, Region.binds .any e = true → sel e.on = true) → sel k = true := by
      intro k hk sel hc he
      rcases mask_bit _ 0 hk with h4 | ⟨e, h4, h5, h6⟩
      · simp at h4
      · have h4' : e ∈ r0.o.after := by simpa using h4
        have hs := he _ at0 e h4' h5
        rcases h6 with rfl | h6
        · exact hs
        · rcases Nat.lt_or_ge e.on ms.length with h7 | h7
          · exact hms e.on h7 k h6 sel hc (fun o ho e' he' hb => hc e.on o ho hs e' he' hb)
          · rw [List.getD_eq_getElem?_getD, List.getElem?_eq_none h7] at h6
            simp at h6
    obtain ⟨g1, g2⟩ := ordK_ok hidx post (pre ++ [r0]) (ms ++ [maskOf r0.o ms]) (by rw [← e1]; exact hl) (by simpa using h3) (by simp [hm]) (fun i hi k hk => by
      rcases Nat.lt_or_ge i ms.length with h4 | h4
      · rw [List.getD_eq_getElem?_getD, List.getElem?_append_left h4, ← List.getD_eq_getElem?_getD] at hk
        exact hms i h4 k hk
      · have : i = ms.length := by simp at hi; omega
        subst this
        rw [List.getD_eq_getElem?_getD, List.getElem?_append_right (Nat.le_refl _)] at hk
        simp only [Nat.sub_self, List.getElem?_cons_zero, Option.getD_some] at hk
        rw [hm]
        exact hmask k hk)
    rw [e1]
    refine ⟨fun i r hi hr => ?_, fun k i x r hk hi hx hr => ?_⟩
    · rcases Nat.lt_or_ge pre.length i with h4 | h4
      · exact g1 i r (by simp; omega) hr
      · have : i = pre.length := by omega
        subst this
        have : r = r0 := by simpa using hr.symm
        subst this
        intro e he hb
        have := List.all_eq_true.1 h1 e (by simpa using he)
        simpa [hb] using this
    · rcases Nat.lt_or_ge pre.length i with h4 | h4
      · exact g2 k i x r hk (by simp; omega) hx hr
      · have : i = pre.length := by omega
        subst this
        have : r = r0 := by simpa using hr.symm
        subst this
        rw [← e1, List.getElem?_append_left hk] at hx
        rcases pairs_at pre 0 h2 k x hx with h5 | h5
        · rw [Nat.zero_add] at h5
          exact .inr (hmask k h5)
        · exact .inl h5
end

/-! ### Code -/
inductive Sig where
  | normal
  | exit (id : Nat)
  | ret

def loopN (f : St → Kw → (Sig → St → Kw → Tr) → Tr) : Nat → St → Kw → (Sig → St → Kw → Tr) → Tr
  | 0, _, _, _ => .stuck 73
  | n + 1, s, kw, k => f s kw fun sg s kw => match sg with
    | .normal => loopN f n s kw k
    | sg => k sg s kw
/-- The number of a code's first region. -/
def fid : Code → Option Nat
  | .region id _ _ => some id
  | .seq a b => (match fid a with | some i => some i | none => fid b)
  | .block _ c => fid c
  | .loop c => fid c
  | .cond _ x y => (match fid x with | some i => some i | none => fid y)
  | _ => none
def hintOf (c : Code) (l : List (Nat × List Pl)) : Option (Nat × List Pl) := match fid c with
  | some i => (lookN i l).map (i, ·)
  | none => none
def Kw.head (kw : Kw) (vks : List VK) : Kw := ⟨kw.pc.filter fun p => p.1.sc kw.vk.length, [], kw.vk ++ vks, kw.lv + 1⟩
def nextK (cx : Cx) (lv v0 : Nat) (vks : List VK) (hd : St) (h0 : Nat) (pls : List Pl) (s : St) (kw : Kw) : Tr := match argL pls s with
  | some (θ, ex) => if Mt.ok ⟨v0, vks, θ, h0, ex, hd.heap⟩ cx kw.vk hd.tmps s then .next lv (argE vks θ) else .stuck 110
  | none => .stuck 111

def codeK (cx : Cx) (fuel : Nat) : Code → St → Kw → (Sig → St → Kw → Tr) → Tr
  | .skip, s, kw, k => k .normal s kw
  | .label _, s, kw, k => k .normal s kw
  | .region _ ops draw, s, kw, k => opsK cx ops ops.toList s kw fun rs s' kw' =>
    if draw then (if ordK ops rs 0 [] [] then k .normal s' kw' else .stuck 70) else k .normal s' kw'
  | .seq a b, s, kw, k => match hintOf b cx.cuts with
    | none => codeK cx fuel a s kw fun sg s kw => match sg with
      | .normal => codeK cx fuel b s kw k
      | sg => k sg s kw
    | some (id, pls) => match pls with
      | [.ask] => codeK cx fuel a s kw fun sg s kw => match sg with
        | .normal => .at id s
        | sg => k sg s kw
      | pls => match absL kw.vk.length pls (s, []) with
        | some (hd, vks) => .cut kw.lv kw.vk.length vks
            (codeK cx fuel a s { kw with lv := kw.lv + 1 } fun sg s' kw' => match sg with
              | .normal => nextK cx kw.lv kw.vk.length vks hd s.heap.length pls s' kw'
              | sg => k sg s' kw')
            (codeK cx fuel b hd (kw.head vks) k)
        | none => .stuck 114
  | .cond c x y, s, kw, k => match evS s.tmps c with
    | some (.one (.bool e)) => decK e (fun t kw => if t then codeK cx fuel x s kw k else codeK cx fuel y s kw k) kw
    | _ => .stuck 71
  | .block id c, s, kw, k => codeK cx fuel c s kw fun sg s kw => match sg with
    | .exit i => if Nat.beq i id then k .normal s kw else k (.exit i) s kw
    | sg => k sg s kw
  | .loop c, s, kw, k => match hintOf c cx.hints with
    | none => loopN (codeK cx fuel c) fuel s kw k
    | some (id, pls) => match pls with
      | [.ask] => .at id s
      | pls => match absL kw.vk.length pls (s, []), argL pls s with
        | some (hd, vks), some (θ, ex) =>
          if Mt.ok ⟨kw.vk.length, vks, θ, s.heap.length, ex, hd.heap⟩ cx kw.vk hd.tmps s then
            .loop kw.lv kw.vk.length vks (argE vks θ) (codeK cx fuel c hd (kw.head vks) fun sg s' kw' => match sg with
              | .normal => nextK cx kw.lv kw.vk.length vks hd s.heap.length pls s' kw'
              | sg => k sg s' kw')
          else .stuck 112
        | _, _ => .stuck 113
  | .exit id, s, kw, k => k (.exit id) s kw
  | .ret, s, kw, k => k .ret s kw
  | _, _, _, _ => .stuck 72

def Sig.exit' : Sig → Exit
  | .normal => .normal
  | .exit id => .exit id
  | .ret => .ret

section
variable {P : Program} {sp : Spec} {ρ : Env} {G : Env → E → Prop} {I : Nat → List Dt → Prop} {cx : Cx} {n : Nat} {W0 : World}

/-- A state of the run and one of the machine. -/
structure At (cx : Cx) (ρ : Env) (n : Nat) (W0 : World) (s : St) (j : J) (a : Act) (w : World) : Prop where
  rel : Rel ρ n W0 cx.fbs s.fs j a w
  len : s.tmps.length = n

theorem idx_of {ops : Array Oper} (i : Nat) (r : Rec) (L : List Rec) (hl : ops.toList = L.map (·.o)) (hi : L[i]? = some r) : ops[i]? = some r.o := by
  rw [← Array.getElem?_toList, hl, List.getElem?_map, hi]; rfl

theorem absP_len {v0 : Nat} {p : Pl} {x y : St × List VK} (h : absP v0 p x = some y) : y.1.tmps.length = x.1.tmps.length := by
  unfold absP at h
  cases p <;> dsimp only at h <;> first
    | (split at h <;> first | (cases h; simp) | cases h)
    | (rw [Option.map_eq_some_iff] at h; obtain ⟨_, _, rfl⟩ := h; rfl)
    | cases h
theorem absL_len {v0 : Nat} : ∀ {l : List Pl} {x y : St × List VK}, absL v0 l x = some y → y.1.tmps.length = x.1.tmps.length
  | [], x, y, h => by cases h; rfl
  | p :: l, x, y, h => by
    simp only [absL, Option.bind_eq_some_iff] at h
    obtain ⟨z, h1, h2⟩ := h
    rw [absL_len h2, absP_len h1]

theorem head_good {ρ' : Env} {kw : Kw} {vks : List VK} (hg : Good sp cx.sm ρ kw) (ha : Ag kw.vk.length ρ ρ') (hd : okDs vks (varsD ρ' kw.vk.length vks)) : Good sp cx.sm ρ' (kw.head vks) := by
  refine ⟨fun p hp => ?_, ?_, fun p hp => by cases hp⟩
  · have h1 := List.mem_filter.1 hp
    rw [← (E.sc_eq ha p.1 (by simpa using h1.2)).2.1]
    exact hg.pc p h1.1
  · have key : ∀ (vks : List VK) (n : Nat), okDs vks (varsD ρ' n vks) → (∀ (i : Nat) k, vks[i]? = some (.int k) → inK k (ρ'.i (n + i)) = true) ∧ ∀ (i : Nat) ks, vks[i]? = some (.list ks) → RowsIn ks (ρ'.l (n + i)) := by
      intro vks
      induction vks with
      | nil => intro n _; exact ⟨fun i k h => by simp at h, fun i k h => by simp at h⟩
      | cons x l ih =>
        intro n h
        obtain ⟨h1, h2⟩ := h
        obtain ⟨i1, i2⟩ := ih (n + 1) h2
        refine ⟨fun i k hk => ?_, fun i ks hk => ?_⟩
        · cases i with
          | zero => simp at hk; subst hk; exact h1
          | succ i =>
            have := i1 i k (by simpa using hk)
            rwa [show n + (i + 1) = n + 1 + i by omega]
        · cases i with
          | zero => simp at hk; subst hk; exact h1
          | succ i =>
            have := i2 i ks (by simpa using hk)
            rwa [show n + (i + 1) = n + 1 + i by omega]
    obtain ⟨k1, k2⟩ := key vks _ hd
    constructor
    · intro i k hk
      rcases Nat.lt_or_ge i kw.vk.length with hlt | hge
      · simp only [Kw.head] at hk
        rw [List.getElem?_append_left hlt] at hk
        rw [← (ha i hlt).1]; exact hg.vk.i i k hk
      · simp only [Kw.head] at hk
        rw [List.getElem?_append_right hge] at hk
        have := k1 _ k hk
        rwa [show kw.vk.length + (i - kw.vk.length) = i by omega] at this
    · intro i k hk
      rcases Nat.lt_or_ge i kw.vk.length with hlt | hge
      · simp only [Kw.head] at hk
        rw [List.getElem?_append_left hlt] at hk
        rw [← (ha i hlt).2.2]; exact hg.vk.l i k hk
      · simp only [Kw.head] at hk
        rw [List.getElem?_append_right hge] at hk
        have := k2 _ k hk
        rwa [show kw.vk.length + (i - kw.vk.length) = i by omega] at this

/-- A head's states at given numbers. -/
def HeadAt (cx : Cx) (n : Nat) (W0 : World) (ρ : Env) (v0 : Nat) (vks : List VK) (hd : St) (ds : List Dt) (a : Act) (w : World) : Prop :=
  ∃ j, ∀ ρ', Ag v0 ρ ρ' → varsD ρ' v0 vks = ds → At cx ρ' n W0 hd j a w
theorem match_head {ρ2 : Env} {v0 : Nat} {vks : List VK} {θ : List E} {h0 : Nat} {ex : List (Option Nat)} {hd s : St} {vk : List VK} {j : J} {a : Act} {w : World} (hok : Mt.ok ⟨v0, vks, θ, h0, ex, hd.heap⟩ cx vk hd.tmps s = true) (hv : Vk ρ2 vk) (hl : hd.tmps.length = n) (ha : Ag v0 ρ ρ2) (hr : At cx ρ2 n W0 s j a w) :
    okDs vks ((argE vks θ).D ρ2) ∧ HeadAt cx n W0 ρ v0 vks hd ((argE vks θ).D ρ2) a w := by
  obtain ⟨h1, h2⟩ := match_okDs hok hv hr.rel
  refine ⟨h2, _, fun ρ3 h3 h4 => ⟨match_rel hok (giv_of (ha.symm.trans h3) h1 h4) hr.rel, hl⟩⟩
/-- The end of a round. -/
theorem nextK_ok {ρ2 : Env} {lv v0 : Nat} {vks : List VK} {h0 : Nat} {pls : List Pl} {hd s : St} {kw : Kw} {j : J} {a : Act} {w : World} (h : (nextK cx lv v0 vks hd h0 pls s kw).holds sp G ρ2 I) (hv : Vk ρ2 kw.vk) (hl : hd.tmps.length = n) (ha : Ag v0 ρ ρ2) (hr : At cx ρ2 n W0 s j a w) :
    ∃ ds, I lv ds ∧ okDs vks ds ∧ HeadAt cx n W0 ρ v0 vks hd ds a w := by
  unfold nextK at h
  split at h
  · split at h
    · rename_i hok
      obtain ⟨h1, h2⟩ := match_head hok hv hl ha hr
      exact ⟨_, h, h1, h2⟩
    · exact h.elim
  · exact h.elim

theorem codeK_ok (hm : P.follows .mixedOrders = true) (hT : ∀ t i, (t, i) ∈ cx.ty → TIok P t i) (hS : ∀ s ∈ cx.sm, SmOk P sp s) (hkeys : ∀ s ∈ cx.sm, ∀ s' ∈ cx.sm, s.key = s'.key → s = s') (fuel : Nat) :
    ∀ (c : Code) (s : St) (kw : Kw) (k : Sig → St → Kw → Tr) (Q : Exit → Act → World → Prop) (ρ : Env) (I : Nat → List Dt → Prop) (j : J) (a : Act) (w : World), (codeK cx fuel c s kw k).holds sp G ρ I → Good sp cx.sm ρ kw → At cx ρ n W0 s j a w →
      (∀ sg s' kw' ρ' I' j' a' w', (k sg s' kw').holds sp G ρ' I' → Good sp cx.sm ρ' kw' → Ag kw.vk.length ρ ρ' → (∀ m, m < kw.lv → I' m = I m) → kw.lv ≤ kw'.lv → kw.vk.length ≤ kw'.vk.length → At cx ρ' n W0 s' j' a' w' → Q sg.exit' a' w') → c.wp P Q a w := by
  intro c
  induction c with
  | skip => intro s kw k Q ρ I j a w h hg hr hQ; exact wp_skip (hQ _ _ _ _ _ _ _ _ h hg (.refl _ _) (fun _ _ => rfl) (Nat.le_refl _) (Nat.le_refl _) hr)
  | label l => intro s kw k Q ρ I j a w h hg hr hQ; exact wp_label (hQ _ _ _ _ _ _ _ _ h hg (.refl _ _) (fun _ _ => rfl) (Nat.le_refl _) (Nat.le_refl _) hr)
  | exit id => intro s kw k Q ρ I j a w h hg hr hQ; exact wp_exit (hQ (.exit id) _ _ _ _ _ _ _ h hg (.refl _ _) (fun _ _ => rfl) (Nat.le_refl _) (Nat.le_refl _) hr)
  | ret => intro s kw k Q ρ I j a w h hg hr hQ; exact wp_ret (hQ .ret _ _ _ _ _ _ _ h hg (.refl _ _) (fun _ _ => rfl) (Nat.le_refl _) (Nat.le_refl _) hr)
  | region id ops draw =>
    intro s kw k Q ρ I j a w h hg hr hQ
    obtain ⟨rs, s', kw', h1, g1, l1, h2, h3, h4, h5⟩ := opsK_ok (P := P) (base := W0.heap.size) hT hS hkeys ops.toList s kw _ h hg
    rw [hr.len] at h5
    have fin : ∀ j' a' w', (k .normal s' kw').holds sp G ρ I → Rel ρ n W0 cx.fbs (full rs s.fs) j' a' w' → Q .normal a' w' := fun j' a' w' hk hr' =>
      hQ .normal s' kw' ρ I j' a' w' hk g1 (.refl _ _) (fun _ _ => rfl) (by rw [l1.lv]; exact Nat.le_refl _) l1.vk ⟨by rw [h3]; exact hr', by rw [h4]; exact hr.len⟩
    cases draw with
    | false =>
      refine wp_region ?_
      have hsz : ops.size = rs.length := by rw [← Array.length_toList, ← h2, List.length_map]
      rw [hsz, List.range_eq_range']
      exact region_seq (P := P) rs [] s.fs (by simpa using h2.symm) (by simpa using h5) (by simpa [full] using hr.rel) (fun j' a' w' hr' => fin j' a' w' h1 (by simpa using hr'))
    | true =>
      simp only [if_true] at h1
      split at h1
      · rename_i hord
        obtain ⟨g2, g3⟩ := ordK_ok (ops := ops) idx_of rs [] [] (by simpa using h2.symm) hord rfl (fun i hi => by simp at hi)
        refine wp_region_any hm ?_
        have hsz : ops.size = rs.length := by rw [← Array.length_toList, ← h2, List.length_map]
        refine region_any (F0 := s.fs) (L := rs) h2.symm h5 (fun i o ho e he hb => ?_) (fun k i x r hk hx hri => by simpa using g3 k i x r hk (Nat.zero_le _) (by simpa using hx) (by simpa using hri)) (fun j' a' w' hr' => fin j' a' w' h1 hr') ops.size (Array.replicate ops.size false) j a _ (by simp [hsz]) ?_ ?_ ?_
        · have hlt : i < rs.length := by
            rw [← hsz]
            rcases Nat.lt_or_ge i ops.size with h6 | h6
            · exact h6
            · rw [Array.getElem?_eq_none h6] at ho; cases ho
          have hri : rs[i]? = some rs[i] := List.getElem?_eq_getElem hlt
          have := idx_of i _ rs h2.symm hri
          rw [ho] at this
          cases this
          exact g2 i _ (Nat.zero_le _) (by simp) e he hb
        · intro i o _ hs
          simp only [Array.getD_eq_getD_getElem?, Array.getElem?_replicate] at hs
          split at hs <;> simp at hs
        · exact Nat.le_trans List.countP_le_length (by simp [hsz])
        · rw [part_none rs 0 s.fs (fun m hm => by
            simp only [Array.getD_eq_getD_getElem?, Array.getElem?_replicate]
            split <;> simp)]
          exact hr.rel.more (Ext.refl w).drew
      · exact h1.elim
  | seq x y ihx ihy =>
    intro s kw k Q ρ I j a w h hg hr hQ
    simp only [codeK] at h
    split at h
    · refine wp_seq (ihx s kw _ _ ρ I j a w h hg hr (fun sg s' kw' ρ' I' j' a' w' h' hg' ha' hI' hl' hv' hr' => ?_))
      cases sg with
      | normal => exact ihy s' kw' k Q ρ' I' j' a' w' h' hg' hr' (fun sg s2 kw2 ρ2 I2 j2 a2 w2 h2 hg2 ha2 hI2 hl2 hv2 hr2 => hQ sg s2 kw2 ρ2 I2 j2 a2 w2 h2 hg2 (ha'.trans (ha2.mono hv')) (fun m hm => (hI2 m (by omega)).trans (hI' m hm)) (by omega) (by omega) hr2)
      | exit id => exact hQ (.exit id) s' kw' ρ' I' j' a' w' h' hg' ha' hI' hl' hv' hr'
      | ret => exact hQ .ret s' kw' ρ' I' j' a' w' h' hg' ha' hI' hl' hv' hr'
    · rename_i id pls _
      split at h
      · refine wp_seq (ihx s kw _ _ ρ I j a w h hg hr (fun sg s' kw' ρ' I' j' a' w' h' hg' ha' hI' hl' hv' hr' => ?_))
        cases sg with
        | normal => exact h'.elim
        | exit id => exact hQ (.exit id) s' kw' ρ' I' j' a' w' h' hg' ha' hI' hl' hv' hr'
        | ret => exact hQ .ret s' kw' ρ' I' j' a' w' h' hg' ha' hI' hl' hv' hr'
      · split at h
        · rename_i hd vks habs
          have hlen : hd.tmps.length = n := (absL_len habs).trans hr.len
          obtain ⟨inv, hpre, hbody⟩ := h
          refine wp_seq (ihx s { kw with lv := kw.lv + 1 } _ _ ρ (upd I kw.lv inv) j a w hpre ⟨hg.pc, hg.vk, hg.log⟩ hr (fun sg s' kw' ρ' I' j' a' w' h' hg' ha' hI' hl' hv' hr' => ?_))
          have below : ∀ m, m < kw.lv → I' m = I m := fun m hm => (hI' m (by show m < kw.lv + 1; omega)).trans (upd_other I inv (by omega))
          cases sg with
          | normal =>
            obtain ⟨ds, h1, h2, j3, h3⟩ := nextK_ok (ρ := ρ) h' hg'.vk hlen ha' hr'
            rw [hI' kw.lv (Nat.lt_succ_self _), upd_same] at h1
            obtain ⟨ρ2, g1, g2, g3⟩ := hbody ds h2 h1
            refine ihy hd (kw.head vks) k Q ρ2 I j3 a' w' g3 (head_good hg g1 (by rw [g2]; exact h2)) (h3 ρ2 g1 g2) (fun sg s2 kw2 ρ3 I2 j2 a2 w2 h2 hg2 ha2 hI2 hl2 hv2 hr2 => hQ sg s2 kw2 ρ3 I2 j2 a2 w2 h2 hg2 (g1.trans (ha2.mono ?_)) (fun m hm => hI2 m ?_) ?_ ?_ hr2)
            · simp [Kw.head]
            · show m < kw.lv + 1; omega
            · have : kw.lv + 1 ≤ kw2.lv := hl2
              omega
            · have : (kw.vk ++ vks).length ≤ kw2.vk.length := hv2
              rw [List.length_append] at this
              omega
          | exit id => exact hQ (.exit id) s' kw' ρ' I' j' a' w' h' hg' ha' below (by have : kw.lv + 1 ≤ kw'.lv := hl'; omega) hv' hr'
          | ret => exact hQ .ret s' kw' ρ' I' j' a' w' h' hg' ha' below (by have : kw.lv + 1 ≤ kw'.lv := hl'; omega) hv' hr'
        · exact h.elim
  | cond c x y ihx ihy =>
    intro s kw k Q ρ I j a w h hg hr hQ
    simp only [codeK] at h
    split at h
    · rename_i e he
      have hc : a.eval c = .bool (e.B ρ) := by
        have h1 := hr.rel.eval (x := c) (v := .one (.bool e)) (by rw [← hr.len, evS_evF]; exact he)
        exact one_bool h1
      obtain ⟨kw1, h1, g1, v1, l1⟩ := decK_ok _ _ _ h hg
      have hQ' : ∀ sg s' kw' ρ' I' j' a' w', (k sg s' kw').holds sp G ρ' I' → Good sp cx.sm ρ' kw' → Ag kw1.vk.length ρ ρ' → (∀ m, m < kw1.lv → I' m = I m) → kw1.lv ≤ kw'.lv → kw1.vk.length ≤ kw'.vk.length → At cx ρ' n W0 s' j' a' w' → Q sg.exit' a' w' := by
        intro sg s' kw' ρ' I' j' a' w' h' hg' ha' hI' hl' hv' hr'
        rw [v1] at ha' hv'
        rw [l1.lv] at hI' hl'
        exact hQ sg s' kw' ρ' I' j' a' w' h' hg' ha' hI' hl' hv' hr'
      refine wp_cond_split hc (fun ht => ?_) (fun ht => ?_)
      · rw [ht] at h1
        exact ihx s kw1 k Q ρ I j a w h1 g1 hr hQ'
      · rw [ht] at h1
        exact ihy s kw1 k Q ρ I j a w h1 g1 hr hQ'
    · exact h.elim
  | block id c ih =>
    intro s kw k Q ρ I j a w h hg hr hQ
    refine wp_block (ih s kw _ _ ρ I j a w h hg hr (fun sg s' kw' ρ' I' j' a' w' h' hg' ha' hI' hl' hv' hr' => ?_))
    cases sg with
    | normal => exact hQ .normal s' kw' ρ' I' j' a' w' h' hg' ha' hI' hl' hv' hr'
    | ret => exact hQ .ret s' kw' ρ' I' j' a' w' h' hg' ha' hI' hl' hv' hr'
    | exit i =>
      dsimp only at h'
      unfold Sig.exit' Exit.inBlock
      dsimp only
      split at h'
      · rename_i hi
        rw [if_pos (Nat.eq_of_beq_eq_true hi)]
        exact hQ .normal s' kw' ρ' I' j' a' w' h' hg' ha' hI' hl' hv' hr'
      · rename_i hi
        rw [if_neg (fun e => hi (by rw [e]; simp))]
        exact hQ (.exit i) s' kw' ρ' I' j' a' w' h' hg' ha' hI' hl' hv' hr'
  | loop c ih =>
    intro s kw k Q ρ I j a w h hg hr hQ
    simp only [codeK] at h
    split at h
    · refine wp_loop_rounds fuel ?_
      have key : ∀ (m : Nat) (s : St) (kw2 : Kw) (ρ2 : Env) (I2 : Nat → List Dt → Prop) (j : J) (a : Act) (w : World), (loopN (codeK cx fuel c) m s kw2 k).holds sp G ρ2 I2 → Good sp cx.sm ρ2 kw2 → Ag kw.vk.length ρ ρ2 → (∀ m, m < kw.lv → I2 m = I m) → kw.lv ≤ kw2.lv → kw.vk.length ≤ kw2.vk.length → At cx ρ2 n W0 s j a w → Code.rounds P c Q m a w := by
        intro m
        induction m with
        | zero => intro s kw2 ρ2 I2 j a w h; exact h.elim
        | succ m ihm =>
          intro s kw2 ρ2 I2 j a w h hg ha2 hI2 hl2 hv2 hr
          rw [rounds_succ]
          simp only [loopN] at h
          refine ih s kw2 _ _ ρ2 I2 j a w h hg hr (fun sg s' kw' ρ' I' j' a' w' h' hg' ha' hI' hl' hv' hr' => ?_)
          have ha3 : Ag kw.vk.length ρ ρ' := ha2.trans (ha'.mono hv2)
          have hI3 : ∀ m, m < kw.lv → I' m = I m := fun m hm => (hI' m (by omega)).trans (hI2 m hm)
          cases sg with
          | normal => exact ihm s' kw' ρ' I' j' a' w' h' hg' ha3 hI3 (by omega) (by omega) hr'
          | exit id => exact hQ (.exit id) s' kw' ρ' I' j' a' w' h' hg' ha3 hI3 (by omega) (by omega) hr'
          | ret => exact hQ .ret s' kw' ρ' I' j' a' w' h' hg' ha3 hI3 (by omega) (by omega) hr'
      exact key fuel s kw ρ I j a w h hg (.refl _ _) (fun _ _ => rfl) (Nat.le_refl _) (Nat.le_refl _) hr
    · rename_i id pls _
      split at h
      · exact h.elim
      · split at h
        · rename_i hd vks θ ex habs harg
          split at h
          · rename_i hok
            have hlen : hd.tmps.length = n := (absL_len habs).trans hr.len
            obtain ⟨inv, μ, hinit, hbody⟩ := h
            obtain ⟨d1, d2⟩ := match_head hok hg.vk hlen (.refl _ _) hr
            have key : ∀ (m : Nat) (ds : List Dt) (a : Act) (w : World), μ ds < m → inv ds → okDs vks ds → HeadAt cx n W0 ρ kw.vk.length vks hd ds a w → Code.rounds P c Q m a w := by
              intro m
              induction m with
              | zero => intro ds a w h; omega
              | succ m ihm =>
                intro ds a w hμ hin hds hat
                rw [rounds_succ]
                obtain ⟨ρ2, g1, g2, g3⟩ := hbody ds hds hin
                obtain ⟨j2, hj2⟩ := hat
                refine ih hd (kw.head vks) _ _ ρ2 _ j2 a w g3 (head_good hg g1 (by rw [g2]; exact hds)) (hj2 ρ2 g1 g2) (fun sg s' kw' ρ' I' j' a' w' h' hg' ha' hI' hl' hv' hr' => ?_)
                have hv2 : kw.vk.length ≤ (kw.head vks).vk.length := by simp [Kw.head]
                have ha3 : Ag kw.vk.length ρ ρ' := g1.trans (ha'.mono hv2)
                have hI3 : ∀ m, m < kw.lv → I' m = I m := fun m hm => (hI' m (by show m < kw.lv + 1; omega)).trans (upd_other I _ (by omega))
                have hl3 : kw.lv ≤ kw'.lv := by have : kw.lv + 1 ≤ kw'.lv := hl'; omega
                have hv3 : kw.vk.length ≤ kw'.vk.length := by omega
                cases sg with
                | normal =>
                  obtain ⟨ds', k1, k2, k3⟩ := nextK_ok (ρ := ρ) h' hg'.vk hlen ha3 hr'
                  rw [hI' kw.lv (Nat.lt_succ_self _), upd_same] at k1
                  exact ihm ds' a' w' (by omega) k1.1 k2 k3
                | exit id => exact hQ (.exit id) s' kw' ρ' I' j' a' w' h' hg' ha3 hI3 hl3 hv3 hr'
                | ret => exact hQ .ret s' kw' ρ' I' j' a' w' h' hg' ha3 hI3 hl3 hv3 hr'
            exact wp_loop_rounds (μ ((argE vks θ).D ρ) + 1) (key _ _ a w (Nat.lt_succ_self _) hinit d1 d2)
          · exact h.elim
        · exact h.elim
  | _ => intro s kw k Q ρ I j a w h; exact h.elim
end
end Go.Proofs.YtcfnglbcgkappaaGreat

/- Results of a symbolic run, and the whole function. Nothing of the program is in here. -/
set_option linter.unusedVariables false
set_option linter.unusedSimpArgs false
namespace Go.Proofs.YtcfnglbcgkappaaGreat
open Go.RowKit

def resOne (cx : Cx) (s : St) : ResultVar → Option (Bool × List C)
  | .tmp t => match s.tmps[t]? with
    | some (.one c) => some (false, [c])
    | some (.agg cs) => some (true, cs)
    | _ => none
  | .cell t ty => match s.tmps[t]?, lookN ty cx.ty with
    | some (.one (.ptr b o)), some i => if i.agg then (rowOf (ldS s.heap) b o i.size).map (true, ·) else (ldS s.heap b o).map (false, [·])
    | _, _ => none
def resL (cx : Cx) (s : St) : List ResultVar → Option (List (Bool × List C))
  | [] => some []
  | r :: l => match resOne cx s r, resL cx s l with
    | some x, some xs => some (x :: xs)
    | _, _ => none
/-- Results as data: numbers in range, rows of one's own. -/
def encR1 (vk : List VK) (heap : List Ob) : CK → C → E → Option E
  | .int k, .int k' e, t => if kdSame k k' && e.rng vk k then some (.cons e t) else none
  | .bool, .bool e, t => some (.consb e t)
  | .fn g, .fn g', t => if Nat.beq g g' then some (.cons (.lit 0) t) else none
  | .nilf, .nilf, t => some (.cons (.lit 0) t)
  | .sl ks ty, .sl id, t => match rwS heap id with
    | some r => if r.own && (ceSame r.ks ks && Nat.beq r.ty ty) then some (.consl r.l t) else none
    | none => none
  | .sl ks _, .nsl, t => (match ks with | [] => none | _ :: _ => some (.consl .lnil t))
  | _, _, _ => none
def encRL (vk : List VK) (heap : List Ob) : List CK → List C → E → Option E
  | [], [], t => some t
  | k :: ks, c :: cs, t => (encRL vk heap ks cs t).bind (encR1 vk heap k c)
  | _, _, _ => none
def encRs (vk : List VK) (heap : List Ob) : List Sh → List (Bool × List C) → Option E
  | [], [] => some .nil
  | .one k :: ss, (false, [c]) :: l => (encRs vk heap ss l).bind (encRL vk heap [k] [c])
  | .agg ks :: ss, (true, cs) :: l => (encRs vk heap ss l).bind (encRL vk heap ks cs)
  | _, _ => none
def oidL : List CK → List C → List (Option Nat)
  | .sl _ _ :: ks, .sl id :: cs => some id :: oidL ks cs
  | .sl _ _ :: ks, _ :: cs => none :: oidL ks cs
  | _ :: ks, _ :: cs => oidL ks cs
  | _, _ => []
def oids : List Sh → List (Bool × List C) → List (Option Nat)
  | s :: ss, (_, cs) :: l => oidL s.cks cs ++ oids ss l
  | _, _ => []
def nodupO : List (Option Nat) → Bool
  | [] => true
  | none :: l => nodupO l
  | some a :: l => (l.all fun x => match x with | some b => !Nat.beq a b | none => true) && nodupO l
def svOf (j : J) : Option Nat → SV
  | some id => (j.s id).getD nilSV
  | none => nilSV

def funK (cx : Cx) (fuel : Nat) (fn : Func) (args : List V) (heap : List Ob) (kw : Kw) : Tr :=
  match fn.body with
  | some c => codeK cx fuel c ⟨args ++ List.replicate (fn.ntmps - args.length) (.one .undef), heap⟩ kw fun sg s kw => match sg with
    | .exit _ => .stuck 80
    | _ => match resL cx s fn.results.toList with
      | some xs => match encRs kw.vk s.heap cx.res xs with
        | some e => if nodupO (oids cx.res xs) then .leaf e else .stuck 83
        | none => .stuck 84
      | none => .stuck 81
  | none => .stuck 82

section
variable {P : Program} {sp : Spec} {ρ : Env} {G : Env → E → Prop} {I : Nat → List Dt → Prop} {cx : Cx} {n : Nat} {W0 : World}

theorem nodupO_at : ∀ {l : List (Option Nat)}, nodupO l = true → ∀ (i i' : Nat) b, l[i]? = some (some b) → l[i']? = some (some b) → i = i'
  | [], _, i, i', b, h, _ => by simp at h
  | x :: l, h, i, i', b, hi, hi' => by
    have key : nodupO l = true ∧ ∀ b, x = some b → ∀ i : Nat, l[i]? ≠ some (some b) := by
      cases x with
      | none => exact ⟨h, fun b hb => by cases hb⟩
      | some a =>
        simp only [nodupO, Bool.and_eq_true] at h
        refine ⟨h.2, fun b hb i hi => ?_⟩
        cases hb
        have := List.all_eq_true.1 h.1 _ (List.mem_of_getElem? hi)
        simp at this
    cases i with
    | zero =>
      simp at hi
      cases i' with
      | zero => rfl
      | succ i' => exact absurd (by simpa using hi') (key.2 b hi i')
    | succ i =>
      cases i' with
      | zero =>
        simp at hi'
        exact absurd (by simpa using hi) (key.2 b hi' i)
      | succ i' => rw [nodupO_at key.1 i i' b (by simpa using hi) (by simpa using hi')]

theorem rowOf_ok {j : J} {a : Act} {w : World} {s : St} (h : Rel ρ n W0 cx.fbs s.fs j a w) {b : Nat} : ∀ (m o : Nat), RdOk ρ j w (ldS s.heap) (rowRd b o m) := by
  intro m o p hp c hc
  rw [← ldS_ldF] at hc
  obtain ⟨k', v, h1, h2, h3, _⟩ := ldF_cell h (b := p.1) (o := p.2) (c := c) hc
  exact ⟨k', v, h1, h2, h3⟩

theorem den0L_length {j : J} : ∀ {cs : List (Bool × List C)} {vs : List Value}, den0L ρ j cs = some vs → vs.length = cs.length
  | [], vs, h => by cases h; rfl
  | c :: cs, vs, h => by
    simp only [den0L] at h
    cases hc : den0 ρ j c with
    | none => rw [hc] at h; cases h
    | some v =>
      cases hl : den0L ρ j cs with
      | none => rw [hc, hl] at h; cases h
      | some l => rw [hc, hl] at h; cases h; simp [den0L_length hl]

def resSem (tmps : Array Value) : ResultVar → Sem Value
  | .tmp t => pure (tmps.getD t undef)
  | .cell a t => do loadVar t (← asAddr (tmps.getD a undef))
theorem results_eq (fn : Func) (tmps : Array Value) : results fn tmps = (do let vs ← fn.results.mapM (resSem tmps); pure (if h : vs.size = 1 then vs[0] else .tuple vs)) := by
  unfold results
  congr 2

theorem resOne_ok (hT : ∀ t i, (t, i) ∈ cx.ty → TIok P t i) {j : J} {a : Act} {w : World} {s : St} (h : At cx ρ n W0 s j a w) {r : ResultVar} {x : Bool × List C} (hx : resOne cx s r = some x) :
    ∃ v, den0 ρ j x = some v ∧ (resSem a.tmps r).run P w = .ok v w := by
  have tmpv : ∀ t u, u ≠ .top → s.tmps[t]? = some u → u.den ρ j = some (a.tmps.getD t undef) := fun t u hne hu => h.rel.eval (x := .tmp t) (by
    rw [← h.len, evS_evF]
    show (match s.tmps[t]? with | some .top => none | x => x) = some u
    rw [hu]
    cases u <;> first | rfl | exact absurd rfl hne)
  cases r with
  | tmp t =>
    simp only [resOne] at hx
    split at hx
    · rename_i c hc
      cases hx
      exact ⟨_, tmpv t _ (by simp) hc, by simp [resSem]⟩
    · rename_i cs hc
      cases hx
      exact ⟨_, tmpv t _ (by simp) hc, by simp [resSem]⟩
    · cases hx
  | cell t ty =>
    simp only [resOne] at hx
    split at hx
    · rename_i b o i hb hi
      obtain ⟨kk, hk, hp⟩ := ptr_of (tmpv t _ (by simp) hb)
      have ht := hT _ _ (lookN_mem hi)
      split at hx
      · rename_i hagg
        rw [Option.map_eq_some_iff] at hx
        obtain ⟨cs, hcs, rfl⟩ := hx
        obtain ⟨vs, h1, h2⟩ := run_loadCells (P := P) hk i.size o cs hcs w (rowOf_ok h.rel i.size o) ⟨kk, o, none⟩ 0 #[] (fun m => by rw [add_none]; simp)
        refine ⟨.agg vs.toArray, by simp [den0, h1], ?_⟩
        simp [resSem, hp, asAddr, Sem.run_bind, loadVar, ht.agg, hagg, ht.size, loadCells, h2]
      · rename_i hagg
        rw [Option.map_eq_some_iff] at hx
        obtain ⟨c, hc, rfl⟩ := hx
        rw [← ldS_ldF] at hc
        obtain ⟨k', v, h1, h2, h3, _⟩ := ldF_cell h.rel (b := b) (o := o) (c := c) hc
        rw [hk] at h1; cases h1
        have hagg' : i.agg = false := by simpa using hagg
        refine ⟨v, h2, ?_⟩
        simp [resSem, hp, asAddr, Sem.run_bind, loadVar, ht.agg, hagg', load, Sem.run, h3]
    · cases hx

theorem resL_ok (hT : ∀ t i, (t, i) ∈ cx.ty → TIok P t i) {j : J} {a : Act} {w : World} {s : St} (h : At cx ρ n W0 s j a w) : ∀ (l : List ResultVar) (xs : List (Bool × List C)), resL cx s l = some xs →
    ∃ vs, den0L ρ j xs = some vs ∧ vs.length = l.length ∧ (l.mapM (resSem a.tmps)).run P w = .ok vs w
  | [], xs, hx => by cases hx; exact ⟨[], rfl, rfl, by simp⟩
  | r :: l, xs, hx => by
    simp only [resL] at hx
    split at hx
    · rename_i x ys h1 h2
      cases hx
      obtain ⟨v, h3, h4⟩ := resOne_ok hT h h1
      obtain ⟨vs, h5, h6, h7⟩ := resL_ok hT h l ys h2
      refine ⟨v :: vs, by simp [den0L, h3, h5], by simp [h6], ?_⟩
      rw [List.mapM_cons]
      simp only [Sem.run_bind]
      rw [h4]
      simp only [Result.andThen_ok, h7]
      simp
    · cases hx
theorem results_ok (hT : ∀ t i, (t, i) ∈ cx.ty → TIok P t i) {j : J} {a : Act} {w : World} {s : St} (h : At cx ρ n W0 s j a w) {fn : Func} {xs : List (Bool × List C)} (hx : resL cx s fn.results.toList = some xs) :
    ∃ vs, den0L ρ j xs = some vs ∧ (results fn a.tmps).run P w = .ok (if h : vs.toArray.size = 1 then vs.toArray[0] else .tuple vs.toArray) w := by
  obtain ⟨vs, h1, h2, h3⟩ := resL_ok hT h _ xs hx
  refine ⟨vs, h1, ?_⟩
  rw [results_eq, Sem.run_bind, Array.mapM_eq_mapM_toList]
  rw [show (List.toArray <$> List.mapM (resSem a.tmps) fn.results.toList : Sem (Array Value)) = (do let l ← List.mapM (resSem a.tmps) fn.results.toList; pure l.toArray) from rfl]
  simp [Sem.run_bind, h3]

/-! ### Results as data -/
theorem drop_cons {α : Type} {ds : List α} {n : Nat} {x : α} {r : List α} (h : ds.drop n = x :: r) : ds[n]? = some x ∧ ds.drop (n + 1) = r := by
  have h1 : ds[n]? = some x := by
    have := congrArg (·[0]?) h
    simpa using this
  refine ⟨h1, ?_⟩
  have := congrArg List.tail h
  simpa using this
/-- What a cell's, a list of cells', parts' results come to. -/
structure Res1 (ρ : Env) (j : J) (w0 w : World) (ks : List CK) (ids : List (Option Nat)) (vs : List Value) (e t : E) : Prop where
  len : ids.length = (ks.filter CK.isSl).length
  rng : resIn ks (e.D ρ)
  at' : ∀ ds n, ds.drop n = e.D ρ → ds.drop (n + ks.length) = t.D ρ ∧ ∀ (ρ' : Env) v0, eqs ρ' ds v0 n ks →
    (∀ id (j' : J), (∀ (i : Nat) u, ids[i]? = some u → j'.s (id + i) = some (svOf j u)) → denL ρ' j' (resCells v0 n id ks) = some vs) ∧
    (∀ (i : Nat) u r, ids[i]? = some u → (resRows v0 n ks)[i]? = some r → OwnRow w w0.heap.size r.ty r.ks (svOf j u) (r.l.R ρ'))

theorem cks_nil {ρ : Env} {j : J} {w0 w : World} {t : E} : Res1 ρ j w0 w [] [] [] t t :=
  ⟨rfl, trivial, fun ds n h => ⟨by simpa using h, fun ρ' v0 he => ⟨fun id j' h => rfl, fun i u r h => by simp at h⟩⟩⟩
theorem dI_of {ds : List Dt} {n : Nat} {x : Int} (h : ds[n]? = some (.z x)) : dI ds n = x := by simp [dI, h]
theorem dL_of {ds : List Dt} {n : Nat} {x : List (List Int)} (h : ds[n]? = some (.l x)) : dL ds n = x := by simp [dL, h]
theorem b2i_eq (b : Bool) : (b2i b == 1) = b := by cases b <;> rfl

theorem encR1_ok {vk : List VK} (hv : Vk ρ vk) {s : St} {j : J} {a : Act} {w : World} (h : Rel ρ n W0 cx.fbs s.fs j a w) {k : CK} {c : C} {t e : E} (he : encR1 vk s.heap k c t = some e) {v : Value} (hd : c.den ρ j = some v) {ks : List CK} {ids : List (Option Nat)} {vs : List Value} {t0 : E} (hr : Res1 ρ j W0 w ks ids vs t t0) {cs : List C} (hids : ids = oidL ks cs) :
    Res1 ρ j W0 w (k :: ks) (oidL (k :: ks) (c :: cs)) (v :: vs) e t0 := by
  subst hids
  have plus : ∀ m : Nat, m + 1 + ks.length = m + (k :: ks).length := fun m => by simp; omega
  unfold encR1 at he
  split at he
  · rename_i k k' x
    split at he
    · rename_i hk
      cases he
      simp only [Bool.and_eq_true] at hk
      have := kdSame_eq hk.1
      subst this
      cases hd
      refine ⟨hr.len, ⟨E.rng_ok hv x hk.2, hr.rng⟩, fun ds n' h1 => ?_⟩
      obtain ⟨h2, h3⟩ := drop_cons h1
      obtain ⟨h4, h5⟩ := hr.at' ds (n' + 1) h3
      refine ⟨by rw [← plus]; exact h4, fun ρ' v0 heq => ?_⟩
      obtain ⟨h6, h7⟩ := h5 ρ' v0 heq.2
      refine ⟨fun id j' hj => ?_, h7⟩
      simp only [resCells, denL, C.den, E.I, h6 id j' hj, heq.1, dI_of h2]
    · cases he
  · rename_i x
    cases he
    cases hd
    refine ⟨hr.len, hr.rng, fun ds n' h1 => ?_⟩
    obtain ⟨h2, h3⟩ := drop_cons h1
    obtain ⟨h4, h5⟩ := hr.at' ds (n' + 1) h3
    refine ⟨by rw [← plus]; exact h4, fun ρ' v0 heq => ?_⟩
    obtain ⟨h6, h7⟩ := h5 ρ' v0 heq.2
    refine ⟨fun id j' hj => ?_, h7⟩
    have h8 : ρ'.b (v0 + n') = x.B ρ := by rw [heq.1]; simp only [dB, dI_of h2, b2i_eq]
    simp only [resCells, denL, C.den, E.B, h6 id j' hj, h8]
  · rename_i g g'
    split at he
    · rename_i hg
      cases he
      have := Nat.eq_of_beq_eq_true hg
      subst this
      cases hd
      refine ⟨hr.len, hr.rng, fun ds n' h1 => ?_⟩
      obtain ⟨h2, h3⟩ := drop_cons h1
      obtain ⟨h4, h5⟩ := hr.at' ds (n' + 1) h3
      refine ⟨by rw [← plus]; exact h4, fun ρ' v0 heq => ?_⟩
      obtain ⟨h6, h7⟩ := h5 ρ' v0 heq
      refine ⟨fun id j' hj => ?_, h7⟩
      simp only [resCells, denL, C.den, h6 id j' hj]
    · cases he
  · cases he
    cases hd
    refine ⟨hr.len, hr.rng, fun ds n' h1 => ?_⟩
    obtain ⟨h2, h3⟩ := drop_cons h1
    obtain ⟨h4, h5⟩ := hr.at' ds (n' + 1) h3
    refine ⟨by rw [← plus]; exact h4, fun ρ' v0 heq => ?_⟩
    obtain ⟨h6, h7⟩ := h5 ρ' v0 heq
    refine ⟨fun id j' hj => ?_, h7⟩
    simp only [resCells, denL, C.den, h6 id j' hj]
  · rename_i ks0 ty id0
    split at he
    · rename_i r hrw
      split at he
      · rename_i hq
        cases he
        simp only [Bool.and_eq_true] at hq
        obtain ⟨ho, hk, ht⟩ := hq
        rw [← rwS_rwF] at hrw
        obtain ⟨sv, h1, h2⟩ := h.row id0 r (rwF_row hrw)
        simp only [C.den, h1, Option.map_some, Option.some.injEq] at hd
        subst hd
        have e1 := ceSame_eq hk
        have e2 := Nat.eq_of_beq_eq_true ht
        subst e1 e2
        have hsv : svOf j (some id0) = sv := by simp [svOf, h1]
        refine ⟨by simp [oidL, List.filter, CK.isSl, hr.len], ⟨h2.rows, hr.rng⟩, fun ds n' h3 => ?_⟩
        obtain ⟨h4, h5⟩ := drop_cons h3
        obtain ⟨h6, h7⟩ := hr.at' ds (n' + 1) h5
        refine ⟨by rw [← plus]; exact h6, fun ρ' v0 heq => ?_⟩
        obtain ⟨h8, h9⟩ := h7 ρ' v0 heq.2
        refine ⟨fun id j' hj => ?_, fun i u q hi hq' => ?_⟩
        · have h10 := hj 0 (some id0) rfl
          rw [hsv, Nat.add_zero] at h10
          have h11 := h8 (id + 1) j' (fun i u hi => by
            have := hj (i + 1) u (by simpa [oidL] using hi)
            rwa [show id + (i + 1) = id + 1 + i by omega] at this)
          simp only [resCells, denL, C.den, h10, Option.map_some, h11]
        · cases i with
          | zero =>
            simp only [oidL, List.getElem?_cons_zero, Option.some.injEq] at hi
            simp only [resRows, List.getElem?_cons_zero, Option.some.injEq] at hq'
            subst hi hq'
            rw [hsv]
            simp only [E.R]
            rw [heq.1, dL_of h4]
            exact ⟨h2.n, h2.own ho, h2.rows, h2.pos⟩
          | succ i => exact h9 i u q (by simpa [oidL] using hi) (by simpa [resRows] using hq')
      · cases he
    · cases he
  · rename_i ks0 ty
    split at he
    · cases he
    · rename_i k0 ks1
      cases he
      cases hd
      have hrows : RowsIn (k0 :: ks1) [] := ⟨fun r hr => (by cases hr), by simp⟩
      refine ⟨by simp [oidL, List.filter, CK.isSl, hr.len], ⟨hrows, hr.rng⟩, fun ds n' h3 => ?_⟩
      obtain ⟨h4, h5⟩ := drop_cons h3
      obtain ⟨h6, h7⟩ := hr.at' ds (n' + 1) h5
      refine ⟨by rw [← plus]; exact h6, fun ρ' v0 heq => ?_⟩
      obtain ⟨h8, h9⟩ := h7 ρ' v0 heq.2
      refine ⟨fun id j' hj => ?_, fun i u q hi hq' => ?_⟩
      · have h10 := hj 0 none rfl
        rw [Nat.add_zero] at h10
        have h11 := h8 (id + 1) j' (fun i u hi => by
          have := hj (i + 1) u (by simpa [oidL] using hi)
          rwa [show id + (i + 1) = id + 1 + i by omega] at this)
        simp only [resCells, denL, C.den, h10, Option.map_some, h11]
        rfl
      · cases i with
        | zero =>
          simp only [oidL, List.getElem?_cons_zero, Option.some.injEq] at hi
          simp only [resRows, List.getElem?_cons_zero, Option.some.injEq] at hq'
          subst hi hq'
          simp only [E.R]
          rw [heq.1, dL_of h4]
          exact ⟨rfl, World.ownsRow_nil _ _ _ _, hrows, by simp⟩
        | succ i => exact h9 i u q (by simpa [oidL] using hi) (by simpa [resRows] using hq')
  · cases he
theorem encRL_ok {vk : List VK} (hv : Vk ρ vk) {s : St} {j : J} {a : Act} {w : World} (h : Rel ρ n W0 cx.fbs s.fs j a w) : ∀ {ks : List CK} {cs : List C} {t e : E}, encRL vk s.heap ks cs t = some e → ∀ {vs : List Value}, denL ρ j cs = some vs → Res1 ρ j W0 w ks (oidL ks cs) vs e t
  | [], [], t, e, he, vs, hd => by cases he; cases hd; exact cks_nil
  | k :: ks, c :: cs, t, e, he, vs, hd => by
    simp only [encRL, Option.bind_eq_some_iff] at he
    obtain ⟨e', h1, h2⟩ := he
    simp only [denL] at hd
    cases hc : c.den ρ j with
    | none => rw [hc] at hd; cases hd
    | some v =>
      cases hl : denL ρ j cs with
      | none => rw [hc, hl] at hd; cases hd
      | some l =>
        rw [hc, hl] at hd; cases hd
        exact encR1_ok hv h h2 hc (encRL_ok hv h h1 hl) rfl

structure Res2 (ρ : Env) (j : J) (w0 w : World) (ss : List Sh) (ids : List (Option Nat)) (vs : List Value) (e : E) : Prop where
  len : ids.length = ((ss.flatMap (·.cks)).filter CK.isSl).length
  rng : resIn (ss.flatMap (·.cks)) (e.D ρ)
  at' : ∀ ds n, ds.drop n = e.D ρ → ∀ (ρ' : Env) v0, eqs ρ' ds v0 n (ss.flatMap (·.cks)) →
    (∀ id (j' : J), (∀ (i : Nat) u, ids[i]? = some u → j'.s (id + i) = some (svOf j u)) → den0L ρ' j' (resParts v0 n id ss) = some vs) ∧
    (∀ (i : Nat) u r, ids[i]? = some u → (resRows v0 n (ss.flatMap (·.cks)))[i]? = some r → OwnRow w w0.heap.size r.ty r.ks (svOf j u) (r.l.R ρ'))
theorem eqs_app {ρ : Env} {ds : List Dt} {v0 : Nat} : ∀ (ks ks' : List CK) (n : Nat), eqs ρ ds v0 n (ks ++ ks') → eqs ρ ds v0 n ks ∧ eqs ρ ds v0 (n + ks.length) ks'
  | [], ks', n, h => ⟨trivial, h⟩
  | k :: ks, ks', n, h => by
    have plus : n + 1 + ks.length = n + (k :: ks).length := by simp; omega
    cases k
    case int => exact ⟨⟨h.1, (eqs_app ks ks' (n + 1) h.2).1⟩, by rw [← plus]; exact (eqs_app ks ks' (n + 1) h.2).2⟩
    case bool => exact ⟨⟨h.1, (eqs_app ks ks' (n + 1) h.2).1⟩, by rw [← plus]; exact (eqs_app ks ks' (n + 1) h.2).2⟩
    case sl => exact ⟨⟨h.1, (eqs_app ks ks' (n + 1) h.2).1⟩, by rw [← plus]; exact (eqs_app ks ks' (n + 1) h.2).2⟩
    all_goals exact ⟨(eqs_app ks ks' (n + 1) h).1, by rw [← plus]; exact (eqs_app ks ks' (n + 1) h).2⟩
theorem resIn_app : ∀ {ks ks' : List CK} {ds : List Dt}, resIn ks ds → resIn ks' (ds.drop ks.length) → resIn (ks ++ ks') ds
  | [], ks', ds, _, h => by simpa using h
  | k :: ks, ks', ds, h, h' => by
    cases ds with
    | nil => cases k <;> exact h.elim
    | cons d ds =>
      cases k
      case int => cases d <;> first | exact ⟨h.1, resIn_app h.2 h'⟩ | exact h.elim
      case sl => cases d <;> first | exact ⟨h.1, resIn_app h.2 h'⟩ | exact h.elim
      all_goals exact resIn_app (ks := ks) (ks' := ks') (ds := ds) h h'
theorem resRows_app {v0 : Nat} : ∀ (ks ks' : List CK) (n : Nat), resRows v0 n (ks ++ ks') = resRows v0 n ks ++ resRows v0 (n + ks.length) ks'
  | [], ks', n => rfl
  | k :: ks, ks', n => by
    have plus : n + 1 + ks.length = n + (k :: ks).length := by simp; omega
    cases k <;> simp only [List.cons_append, resRows, resRows_app ks ks' (n + 1), plus]
theorem resRows_len {v0 : Nat} : ∀ (ks : List CK) (n : Nat), (resRows v0 n ks).length = (ks.filter CK.isSl).length
  | [], n => rfl
  | k :: ks, n => by cases k <;> simp [resRows, List.filter, CK.isSl, resRows_len ks (n + 1)]
theorem Res2.cons {j : J} {w0 w : World} {k : Sh} {ss : List Sh} {ids ids' : List (Option Nat)} {us vs : List Value} {e t : E} {v : Value} (h1 : Res1 ρ j w0 w k.cks ids us e t) (h2 : Res2 ρ j w0 w ss ids' vs t)
    (hp : ∀ v0 n id, ∃ p, resParts v0 n id (k :: ss) = p :: resParts v0 (n + k.cks.length) (id + (k.cks.filter CK.isSl).length) ss ∧ ∀ (ρ' : Env) (j' : J), denL ρ' j' (resCells v0 n id k.cks) = some us → den0 ρ' j' p = some v) : Res2 ρ j w0 w (k :: ss) (ids ++ ids') (v :: vs) e := by
  refine ⟨by rw [List.flatMap_cons, List.filter_append, List.length_append, List.length_append, h1.len, h2.len], ?_, fun ds n' hd ρ' v0 he => ?_⟩
  · rw [List.flatMap_cons]
    have h3 := (h1.at' (e.D ρ) 0 rfl).1
    rw [Nat.zero_add] at h3
    exact resIn_app h1.rng (by rw [h3]; exact h2.rng)
  · rw [List.flatMap_cons] at he
    obtain ⟨e1, e2⟩ := eqs_app _ _ _ he
    obtain ⟨d1, d2⟩ := h1.at' ds n' hd
    obtain ⟨a1, a2⟩ := d2 ρ' v0 e1
    obtain ⟨b1, b2⟩ := h2.at' ds (n' + k.cks.length) d1 ρ' v0 e2
    refine ⟨fun id j' hj => ?_, fun i u r hi hr => ?_⟩
    · obtain ⟨p, p1, p2⟩ := hp v0 n' id
      rw [p1]
      have q1 := p2 ρ' j' (a1 id j' (fun i u hi => hj i u (by
        rw [List.getElem?_append_left (List.getElem?_eq_some_iff.1 hi).1]; exact hi)))
      have q2 := b1 (id + (k.cks.filter CK.isSl).length) j' (fun i u hi => by
        have := hj (ids.length + i) u (by rw [List.getElem?_append_right (by omega), Nat.add_sub_cancel_left]; exact hi)
        rw [h1.len] at this
        rwa [Nat.add_assoc])
      simp only [den0L, q1, q2]
    · rw [List.flatMap_cons, resRows_app] at hr
      rcases Nat.lt_or_ge i ids.length with hlt | hge
      · rw [List.getElem?_append_left hlt] at hi
        rw [List.getElem?_append_left (by rw [resRows_len, ← h1.len]; exact hlt)] at hr
        exact a2 i u r hi hr
      · rw [List.getElem?_append_right hge] at hi
        rw [List.getElem?_append_right (by rw [resRows_len, ← h1.len]; exact hge), resRows_len, ← h1.len] at hr
        exact b2 _ u r hi hr
theorem encRs_ok {vk : List VK} (hv : Vk ρ vk) {s : St} {j : J} {a : Act} {w : World} (h : Rel ρ n W0 cx.fbs s.fs j a w) : ∀ {ss : List Sh} {xs : List (Bool × List C)} {e : E}, encRs vk s.heap ss xs = some e → ∀ {vs : List Value}, den0L ρ j xs = some vs → Res2 ρ j W0 w ss (oids ss xs) vs e
  | ss, xs, e, he, vs, hd => by
    unfold encRs at he
    split at he
    · cases he; cases hd
      exact ⟨rfl, trivial, fun ds n h ρ' v0 he => ⟨fun id j' h => rfl, fun i u r h => by simp [oids] at h⟩⟩
    · rename_i k ss c l
      rw [Option.bind_eq_some_iff] at he
      obtain ⟨e', h1, h2⟩ := he
      simp only [den0L] at hd
      cases hc : den0 ρ j (false, [c]) with
      | none => rw [hc] at hd; cases hd
      | some v =>
        cases hl : den0L ρ j l with
        | none => rw [hc, hl] at hd; cases hd
        | some us =>
          rw [hc, hl] at hd; cases hd
          have hc' : c.den ρ j = some v := hc
          refine Res2.cons (k := .one k) (encRL_ok hv h h2 (vs := [v]) (by simp [denL, hc'])) (encRs_ok hv h h1 hl) (fun v0 n id => ?_)
          refine ⟨(false, resCells v0 n id [k]), ?_, fun ρ' j' hh => ?_⟩
          · simp only [resParts, Sh.cks, List.length_singleton]
            congr 2
            cases k <;> simp [List.filter, CK.isSl]
          · simp only [Sh.cks] at hh
            have : ∃ c', resCells v0 n id [k] = [c'] := by cases k <;> exact ⟨_, rfl⟩
            obtain ⟨c', hc2⟩ := this
            rw [hc2] at hh ⊢
            simp only [denL] at hh
            simp only [den0]
            cases hx : c'.den ρ' j' with
            | none => rw [hx] at hh; cases hh
            | some y => rw [hx] at hh; simpa using hh
    · rename_i ks ss cs l
      rw [Option.bind_eq_some_iff] at he
      obtain ⟨e', h1, h2⟩ := he
      simp only [den0L] at hd
      cases hc : den0 ρ j (true, cs) with
      | none => rw [hc] at hd; cases hd
      | some v =>
        cases hl : den0L ρ j l with
        | none => rw [hc, hl] at hd; cases hd
        | some us =>
          rw [hc, hl] at hd; cases hd
          simp only [den0, Option.map_eq_some_iff] at hc
          obtain ⟨ws, hws, rfl⟩ := hc
          refine Res2.cons (k := .agg ks) (encRL_ok hv h h2 hws) (encRs_ok hv h h1 hl) (fun v0 n id => ?_)
          exact ⟨(true, resCells v0 n id ks), rfl, fun ρ' j' hh => by simp [den0, Sh.cks] at hh ⊢; exact hh⟩
    · cases he

theorem resVof_ok {ρ : Env} {j : J} {res : List Sh} {tup : Bool} {v0 nid : Nat} {vs : List Value} (ht : Nat.beq res.length 1 = !tup) (hl : vs.length = res.length) (h : den0L ρ j (resParts v0 0 nid res) = some vs) :
    (resVof res tup v0 nid).den ρ j = some (if h : vs.toArray.size = 1 then vs.toArray[0] else .tuple vs.toArray) := by
  cases tup with
  | true =>
    have hne : ¬ vs.length = 1 := fun e => by rw [hl] at e; simp [e] at ht
    simp [resVof, V.den, h, hne]
  | false =>
    have h1 : res.length = 1 := Nat.eq_of_beq_eq_true (by simpa using ht)
    match res, vs, h1, hl, h with
    | [r], [v], _, _, h =>
      unfold resVof
      rw [if_neg (by simp)]
      cases r with
      | one k =>
        have : ∃ c', resCells v0 0 nid [k] = [c'] := by cases k <;> exact ⟨_, rfl⟩
        obtain ⟨c', hc⟩ := this
        simp only [resParts, hc, den0L, den0] at h ⊢
        cases hx : c'.den ρ j with
        | none => rw [hx] at h; cases h
        | some y => rw [hx] at h; cases h; simpa [V.den] using hx
      | agg ks =>
        simp only [resParts, den0L, den0] at h ⊢
        cases hx : denL ρ j (resCells v0 0 nid ks) with
        | none => rw [hx] at h; cases h
        | some y => rw [hx] at h; cases h; simp [V.den, hx]
      | ptr ks =>
        simp only [resParts, den0L, den0, denL, C.den] at h ⊢
        cases h
        simp [V.den, denL, C.den]
theorem Res2.ret {j : J} {w0 w : World} {ss : List Sh} {tup : Bool} {ids : List (Option Nat)} {vs : List Value} {e : E} (h : Res2 ρ j w0 w ss ids vs e) (ht : Nat.beq ss.length 1 = !tup) (hl : vs.length = ss.length) (hx : Ext w0 w)
    (hd : ∀ (i i' : Nat) a b k, ids[i]? = some a → ids[i']? = some b → (svOf j a).v.ownBlock = some k → (svOf j b).v.ownBlock = some k → i = i') : RetOk ss tup w0 w (e.D ρ) (if h : vs.toArray.size = 1 then vs.toArray[0] else .tuple vs.toArray) := by
  have at0 := fun ρ' v0 he => h.at' (e.D ρ) 0 rfl ρ' v0 he
  refine ⟨hx, h.rng, ids.map (svOf j), by rw [List.length_map, h.len], fun ρ' v0 nid j' he hs => ?_, fun ρ' v0 he i u r hu hr => ?_, fun i i' u u' k hu hu' hk hk' => ?_⟩
  · exact resVof_ok ht hl ((at0 ρ' v0 he).1 nid j' (fun i u hi => hs i _ (by rw [List.getElem?_map, hi]; rfl)))
  · rw [List.getElem?_map, Option.map_eq_some_iff] at hu
    obtain ⟨a, ha, rfl⟩ := hu
    exact (at0 ρ' v0 he).2 i a r ha hr
  · rw [List.getElem?_map, Option.map_eq_some_iff] at hu hu'
    obtain ⟨a, ha, rfl⟩ := hu
    obtain ⟨b, hb, rfl⟩ := hu'
    exact hd i i' a b k ha hb hk hk'

/-- Where a function begins: rows and boxes that are the caller's. -/
structure Start (cx : Cx) (ρ : Env) (heap : List Ob) (j : J) (w : World) : Prop where
  row : ∀ (b : Nat) ob, heap[b]? = some ob → ∃ r s, ob = .row r ∧ r.own = false ∧ j.s b = some s ∧ RowOk ρ w.heap.size w s r
  nos : ∀ b, heap.length ≤ b → j.s b = none
  nob : ∀ b, j.b b = none
  fb : ∀ b cs, cx.fbs b = some cs → ∃ k vs, j.f b = some k ∧ k < w.heap.size ∧ denL ρ j cs = some vs ∧ ∀ (o : Nat) v, vs[o]? = some v → w.cell? ⟨k, o, none⟩ = some v
theorem oidL_own {vk : List VK} {heap : List Ob} : ∀ {ks : List CK} {cs : List C} {t e : E}, encRL vk heap ks cs t = some e → ∀ (i id : Nat), (oidL ks cs)[i]? = some (some id) → ∃ r, rwS heap id = some r ∧ r.own = true
  | [], [], t, e, _, i, id, hi => by simp [oidL] at hi
  | k :: ks, c :: cs, t, e, he, i, id, hi => by
    simp only [encRL, Option.bind_eq_some_iff] at he
    obtain ⟨e', h1, h2⟩ := he
    have ih := oidL_own h1
    unfold encR1 at h2
    split at h2
    · exact ih i id hi
    · exact ih i id hi
    · exact ih i id hi
    · exact ih i id hi
    · rename_i id0
      split at h2
      · rename_i r hr
        split at h2
        · rename_i hq
          simp only [Bool.and_eq_true] at hq
          cases i with
          | zero =>
            simp only [oidL, List.getElem?_cons_zero, Option.some.injEq] at hi
            subst hi
            exact ⟨r, hr, hq.1⟩
          | succ i => exact ih i id (by simpa [oidL] using hi)
        · cases h2
      · cases h2
    · cases i with
      | zero => simp [oidL] at hi
      | succ i => exact ih i id (by simpa [oidL] using hi)
    · cases h2
theorem oids_own {vk : List VK} {heap : List Ob} : ∀ {ss : List Sh} {xs : List (Bool × List C)} {e : E}, encRs vk heap ss xs = some e → ∀ (i id : Nat), (oids ss xs)[i]? = some (some id) → ∃ r, rwS heap id = some r ∧ r.own = true
  | ss, xs, e, he, i, id, hi => by
    unfold encRs at he
    split at he
    · simp [oids] at hi
    · rename_i k ss c l
      rw [Option.bind_eq_some_iff] at he
      obtain ⟨e', h1, h2⟩ := he
      have hi' : (oidL [k] [c] ++ oids ss l)[i]? = some (some id) := hi
      rcases Nat.lt_or_ge i (oidL [k] [c]).length with hlt | hge
      · rw [List.getElem?_append_left hlt] at hi'
        exact oidL_own h2 i id hi'
      · rw [List.getElem?_append_right hge] at hi'
        exact oids_own h1 _ id hi'
    · rename_i ks ss cs l
      rw [Option.bind_eq_some_iff] at he
      obtain ⟨e', h1, h2⟩ := he
      have hi' : (oidL ks cs ++ oids ss l)[i]? = some (some id) := hi
      rcases Nat.lt_or_ge i (oidL ks cs).length with hlt | hge
      · rw [List.getElem?_append_left hlt] at hi'
        exact oidL_own h2 i id hi'
      · rw [List.getElem?_append_right hge] at hi'
        exact oids_own h1 _ id hi'
    · cases he
theorem encRs_len {vk : List VK} {heap : List Ob} : ∀ {ss : List Sh} {xs : List (Bool × List C)} {e : E}, encRs vk heap ss xs = some e → xs.length = ss.length
  | ss, xs, e, he => by
    unfold encRs at he
    split at he
    · rfl
    · rw [Option.bind_eq_some_iff] at he
      obtain ⟨e', h1, _⟩ := he
      simp [encRs_len h1]
    · rw [Option.bind_eq_some_iff] at he
      obtain ⟨e', h1, _⟩ := he
      simp [encRs_len h1]
    · cases he

/-- THE WHOLE: a function whose run gives the data X on each of its ways returns what X tells, and leaves what was there. -/
theorem funK_ok (hm : P.follows .mixedOrders = true) (hT : ∀ t i, (t, i) ∈ cx.ty → TIok P t i) (hS : ∀ s ∈ cx.sm, SmOk P sp s) (hkeys : ∀ s ∈ cx.sm, ∀ s' ∈ cx.sm, s.key = s'.key → s = s') {f : Nat} {fn : Func} (hf : P.funcs[f]? = some fn)
    {fuel : Nat} {args : List V} {heap : List Ob} {kw : Kw} {vals : List Value} {j : J} (hargs : ∀ (i : Nat) x, args[i]? = some x → ∃ u, vals[i]? = some u ∧ x.den ρ j = some u) (hlen : vals.length = args.length) {tup : Bool} (ht : Nat.beq cx.res.length 1 = !tup) {X : List Dt}
    (h : (funK cx fuel fn args heap kw).holds sp (fun ρ e => e.D ρ = X) ρ I) (hg : Good sp cx.sm ρ kw) (w : World) (hst : Start cx ρ heap j w) : Calls P f vals.toArray w fun e w' => ∃ v, e = .returned v ∧ RetOk cx.res tup w w' X v := by
  unfold funK at h
  split at h
  · rename_i c hc
    refine calls_of_wp hf hc ?_
    have hsz : vals.toArray.size = args.length := by simpa using hlen
    have rowAt : ∀ b, (rowH heap b = none ↔ heap.length ≤ b) ∧ ∀ r, rowH heap b = some (some r) → heap[b]? = some (.row r) := by
      intro b
      refine ⟨⟨fun hb => ?_, fun hb => by simp [rowH, List.getElem?_eq_none hb]⟩, fun r hb => ?_⟩
      · rcases Nat.lt_or_ge b heap.length with hlt | hge
        · obtain ⟨r, s, e, _⟩ := hst.row b _ (List.getElem?_eq_getElem hlt)
          simp [rowH, List.getElem?_eq_getElem hlt, e] at hb
        · exact hge
      · unfold rowH at hb
        split at hb
        · rename_i r' hr; cases hb; exact hr
        · cases hb
        · cases hb
    have hown : ∀ b r, rowH heap b = some (some r) → r.own = false := fun b r hb => by
      obtain ⟨r', s, e, h1, _⟩ := hst.row b _ ((rowAt b).2 r hb)
      cases e; exact h1
    have nobox : ∀ b, boxH heap b = none := fun b => by
      unfold boxH
      split
      · rename_i cs ty hb
        obtain ⟨r, s, e, _⟩ := hst.row b _ hb
        cases e
      · rfl
    refine codeK_ok (P := P) (n := args.length + (fn.ntmps - args.length)) (W0 := w) hm hT hS hkeys fuel c _ kw _ _ ρ I j _ w h hg ⟨⟨rfl, by simp [hlen], ?_, fun b cs ty hb => ?_, fun b _ => hst.nob b, fun b b' k hb => ?_, fun b r hb => ?_, fun b hb => hst.nos b ((rowAt b).1.1 hb), fun b b' k r s hb => ?_, fun b b' r r' s s' k hb ho => ?_, hst.fb, Ext.refl w⟩, by simp⟩ ?_
    · intro t ht
      rcases Nat.lt_or_ge t args.length with h1 | h1
      · obtain ⟨u, hu, hd⟩ := hargs t args[t] (List.getElem?_eq_getElem h1)
        refine ⟨u, ?_, .inr ?_⟩
        · rw [Array.getElem?_append_left (by simpa [hlen] using h1)]
          simpa using hu
        · simp only [St.fs, fsOf]
          rw [List.getElem?_append_left h1, List.getElem?_eq_getElem h1]
          exact hd
      · refine ⟨Go.undef, ?_, .inr ?_⟩
        · rw [Array.getElem?_append_right (by simpa [hlen] using h1)]
          rw [Array.getElem?_replicate, if_pos (by rw [hsz]; omega)]
        · simp only [St.fs, fsOf]
          rw [List.getElem?_append_right h1, List.getElem?_replicate, if_pos (by omega)]
          rfl
    · rw [show (St.mk (args ++ List.replicate (fn.ntmps - args.length) (.one .undef)) heap).fs.box b = boxH heap b from rfl, nobox] at hb
      cases hb
    · rw [hst.nob] at hb; cases hb
    · obtain ⟨r', s, e, h1, h2, h3⟩ := hst.row b _ ((rowAt b).2 r hb)
      cases e
      exact ⟨s, h2, h3⟩
    · rw [hst.nob] at hb; cases hb
    · rw [hown b r hb] at ho; cases ho
    · intro sg s' kw' ρ' I' j' a' w' h' hg' ha' hI' hl' hv' hr'
      have fin : ∀ xs, resL cx s' fn.results.toList = some xs → ∀ e, encRs kw'.vk s'.heap cx.res xs = some e → nodupO (oids cx.res xs) = true → e.D ρ' = X → a'.defers = [] ∧ ∃ v, (results fn a'.tmps).run P w' = .ok v w' ∧ ∃ u, Ending.returned v = .returned u ∧ RetOk cx.res tup w w' X u := by
        intro xs hxs e he hn hX
        obtain ⟨vs, h1, h2⟩ := results_ok hT hr' hxs
        have h3 := encRs_ok hg'.vk hr'.rel he h1
        have h4 := h3.ret (tup := tup) ht (by rw [den0L_length h1, encRs_len he]) hr'.rel.ext (fun i i' a b k hi hi' hk hk' => ?_)
        · rw [hX] at h4
          exact ⟨hr'.rel.defers, _, h2, _, rfl, h4⟩
        · cases a with
          | none => cases hk
          | some a =>
            cases b with
            | none => cases hk'
            | some b =>
              obtain ⟨r, hr1, hr2⟩ := oids_own he i a hi
              obtain ⟨r', hr3, hr4⟩ := oids_own he i' b hi'
              rw [← rwS_rwF] at hr1 hr3
              have q1 := rwF_row hr1
              have q2 := rwF_row hr3
              obtain ⟨s1, t1, _⟩ := hr'.rel.row a r q1
              obtain ⟨s2, t2, _⟩ := hr'.rel.row b r' q2
              simp only [svOf, t1, t2, Option.getD_some] at hk hk'
              have := hr'.rel.rsep a b r r' s1 s2 k q1 hr2 q2 t1 t2 (blk_of hr2 hk) (blk_of hr4 hk')
              subst this
              exact nodupO_at hn i i' a hi hi'
      have fin' : (match resL cx s' fn.results.toList with
          | some xs => match encRs kw'.vk s'.heap cx.res xs with
            | some e => if nodupO (oids cx.res xs) then .leaf e else .stuck 83
            | none => .stuck 84
          | none => .stuck 81 : Tr).holds sp (fun ρ e => e.D ρ = X) ρ' I' → a'.defers = [] ∧ ∃ v, (results fn a'.tmps).run P w' = .ok v w' ∧ ∃ u, Ending.returned v = .returned u ∧ RetOk cx.res tup w w' X u := by
        intro h'
        split at h'
        · rename_i xs hxs
          split at h'
          · rename_i e he
            split at h'
            · rename_i hn; exact fin xs hxs e he hn h'
            · exact h'.elim
          · exact h'.elim
        · exact h'.elim
      cases sg with
      | exit id => exact h'.elim
      | normal => exact fin' h'
      | ret => exact fin' h'
  · exact h.elim
end
end Go.Proofs.YtcfnglbcgkappaaGreat

/- From a run's tree to a contract: numbers for the calls' results; types checked; arguments as data. Nothing of the program is in here. -/
set_option linter.unusedVariables false
set_option linter.unusedSimpArgs false
namespace Go.Proofs.YtcfnglbcgkappaaGreat
open Go.RowKit

/-! ### Trees -/
def Tr.sc : Nat → Tr → Bool
  | _, .leaf _ | _, .panic | _, .stuck _ | _, .at _ _ => true
  | n, .br e t f => e.sc n && (t.sc n && f.sc n)
  | n, .call _ ks args v0 t => args.sc n && (Nat.beq v0 n && t.sc (n + ks.length))
  | n, .next _ args => args.sc n
  | n, .loop _ v0 vks init body => init.sc n && (Nat.beq v0 n && body.sc (n + vks.length))
  | n, .cut _ v0 vks pre body => Nat.beq v0 n && (pre.sc n && body.sc (n + vks.length))
/-- What is to be shown of the tree: the calls' results are given, by equations. -/
def Tr.asks (sp : Spec) (G : Env → E → Prop) : Env → (Nat → List Dt → Prop) → Tr → Prop
  | ρ, _, .leaf e => G ρ e
  | _, _, .panic => False
  | _, _, .stuck _ => False
  | _, _, .at _ _ => False
  | ρ, I, .br e t f => (e.B ρ = true → t.asks sp G ρ I) ∧ (e.B ρ = false → f.asks sp G ρ I)
  | ρ, I, .call key ks args v0 t => sp.pre key (args.D ρ) ∧ (eqs ρ (sp.F key (args.D ρ)) v0 0 ks → t.asks sp G ρ I)
  | ρ, I, .next lv args => I lv (args.D ρ)
  | ρ, I, .loop lv v0 vks init body => ∃ (inv : List Dt → Prop) (μ : List Dt → Nat), inv (init.D ρ) ∧
      ∀ ρ', Ag v0 ρ ρ' → okDs vks (varsD ρ' v0 vks) → inv (varsD ρ' v0 vks) → body.asks sp G ρ' (upd I lv fun ds' => inv ds' ∧ μ ds' < μ (varsD ρ' v0 vks))
  | ρ, I, .cut lv v0 vks pre body => ∃ inv : List Dt → Prop, pre.asks sp G ρ (upd I lv inv) ∧
      ∀ ρ', Ag v0 ρ ρ' → okDs vks (varsD ρ' v0 vks) → inv (varsD ρ' v0 vks) → body.asks sp G ρ' I

theorem Tr.asks_mono {sp : Spec} {G : Env → E → Prop} : ∀ (t : Tr) (ρ : Env) (I I' : Nat → List Dt → Prop), (∀ n ds, I n ds → I' n ds) → t.asks sp G ρ I → t.asks sp G ρ I' := by
  intro t
  induction t with
  | leaf | panic | stuck | «at» => intro ρ I I' _ h; exact h
  | br e t f iht ihf => intro ρ I I' hi h; exact ⟨fun hb => iht ρ I I' hi (h.1 hb), fun hb => ihf ρ I I' hi (h.2 hb)⟩
  | call key ks args v0 t ih => intro ρ I I' hi h; exact ⟨h.1, fun he => ih ρ I I' hi (h.2 he)⟩
  | next lv args => intro ρ I I' hi h; exact hi _ _ h
  | loop lv v0 vks init body ih =>
    intro ρ I I' hi h
    obtain ⟨inv, μ, h1, h2⟩ := h
    refine ⟨inv, μ, h1, fun ρ' ha hd hv => ih ρ' _ _ (fun n ds => ?_) (h2 ρ' ha hd hv)⟩
    unfold upd
    split
    · exact id
    · exact hi n ds
  | cut lv v0 vks pre body ihp ihb =>
    intro ρ I I' hi h
    obtain ⟨inv, h1, h2⟩ := h
    refine ⟨inv, ihp ρ _ _ (fun n ds => ?_) h1, fun ρ' ha hd hv => ihb ρ' I I' hi (h2 ρ' ha hd hv)⟩
    unfold upd
    split
    · exact id
    · exact hi n ds

/-- Data laid into an environment from a number on. -/
def Env.put (ρ : Env) (v0 : Nat) (ds : List Dt) : Env := ⟨fun i => if v0 ≤ i then dI ds (i - v0) else ρ.i i, fun i => if v0 ≤ i then dB ds (i - v0) else ρ.b i, fun i => if v0 ≤ i then dL ds (i - v0) else ρ.l i⟩
theorem put_ag (ρ : Env) (v0 : Nat) (ds : List Dt) : Ag v0 ρ (ρ.put v0 ds) := fun i hi => by
  have : ¬ v0 ≤ i := by omega
  simp [Env.put, this]
theorem eqs_of {ρ : Env} {ds : List Dt} {v0 : Nat} : ∀ (ks : List CK) (n : Nat), (∀ m, n ≤ m → m < n + ks.length → ρ.i (v0 + m) = dI ds m ∧ ρ.b (v0 + m) = dB ds m ∧ ρ.l (v0 + m) = dL ds m) → eqs ρ ds v0 n ks
  | [], _, _ => trivial
  | k :: ks, n, h => by
    have h0 := h n (Nat.le_refl _) (by simp)
    have h1 := eqs_of ks (n + 1) (fun m h1 h2 => h m (by omega) (by simp at h2 ⊢; omega))
    cases k
    case int => exact ⟨h0.1, h1⟩
    case bool => exact ⟨h0.2.1, h1⟩
    case sl => exact ⟨h0.2.2, h1⟩
    all_goals exact h1
theorem varsD_of {ρ : Env} {v0 : Nat} {ds : List Dt} : ∀ (vks : List VK) (n : Nat), okDs vks (ds.drop n) → (∀ m, n ≤ m → m < n + vks.length → ρ.i (v0 + m) = dI ds m ∧ ρ.b (v0 + m) = dB ds m ∧ ρ.l (v0 + m) = dL ds m) → varsD ρ (v0 + n) vks = ds.drop n
  | [], n, h, _ => by
    cases hd : ds.drop n with
    | nil => rfl
    | cons d r => rw [hd] at h; exact h.elim
  | k :: vks, n, h, hv => by
    cases hd : ds.drop n with
    | nil => rw [hd] at h; cases k <;> exact h.elim
    | cons d r =>
      rw [hd] at h
      obtain ⟨d1, d2⟩ := drop_cons hd
      have ih := varsD_of vks (n + 1) (by rw [d2]; exact h.2) (fun m h1 h2 => hv m (by omega) (by simp at h2 ⊢; omega))
      rw [d2] at ih
      obtain ⟨h1, h2, h3⟩ := hv n (Nat.le_refl _) (by simp)
      simp only [varsD]
      rw [show v0 + n + 1 = v0 + (n + 1) by omega, ih]
      congr 1
      have ok := h.1
      cases k with
      | int k =>
        cases d with
        | z x => simp only [varD]; rw [h1, dI_of d1]
        | l L => exact ok.elim
      | bool =>
        cases d with
        | z x =>
          simp only [varD]; rw [h2]
          simp only [dB, dI_of d1]
          rcases ok with rfl | rfl <;> rfl
        | l L => exact ok.elim
      | list ks =>
        cases d with
        | z x => exact ok.elim
        | l L => simp only [varD]; rw [h3, dL_of d1]
theorem put_vars {ρ : Env} {v0 : Nat} {ds : List Dt} {vks : List VK} (h : okDs vks ds) {ρ' : Env} (ha : Ag (v0 + vks.length) (ρ.put v0 ds) ρ') : varsD ρ' v0 vks = ds := by
  refine (varsD_of (v0 := v0) (ds := ds) vks 0 h (fun m _ h2 => ?_))
  have := ha (v0 + m) (by omega)
  simp only [Env.put, if_pos (Nat.le_add_right v0 m), Nat.add_sub_cancel_left] at this
  exact ⟨this.1.symm, this.2.1.symm, this.2.2.symm⟩

theorem env_exists {sp : Spec} {G : Env → E → Prop} : ∀ (t : Tr) (n : Nat) (ρ : Env) (I : Nat → List Dt → Prop), t.sc n = true → (∀ ρ', Ag n ρ ρ' → t.asks sp G ρ' I) → ∃ ρ', Ag n ρ ρ' ∧ t.holds sp G ρ' I := by
  intro t
  induction t with
  | leaf v => intro n ρ I _ h; exact ⟨ρ, Ag.refl n ρ, h ρ (Ag.refl n ρ)⟩
  | panic => intro n ρ I _ h; exact (h ρ (Ag.refl n ρ)).elim
  | stuck m => intro n ρ I _ h; exact (h ρ (Ag.refl n ρ)).elim
  | «at» m s => intro n ρ I _ h; exact (h ρ (Ag.refl n ρ)).elim
  | next lv args => intro n ρ I _ h; exact ⟨ρ, Ag.refl n ρ, h ρ (Ag.refl n ρ)⟩
  | br e t f iht ihf =>
    intro n ρ I hs h
    simp only [Tr.sc, Bool.and_eq_true] at hs
    cases hb : e.B ρ with
    | true =>
      obtain ⟨ρ', h1, h2⟩ := iht n ρ I hs.2.1 (fun ρ' ha => (h ρ' ha).1 (by rw [← (E.sc_eq ha e hs.1).2.1]; exact hb))
      refine ⟨ρ', h1, fun _ => h2, fun hf => ?_⟩
      rw [← (E.sc_eq h1 e hs.1).2.1, hb] at hf
      cases hf
    | false =>
      obtain ⟨ρ', h1, h2⟩ := ihf n ρ I hs.2.2 (fun ρ' ha => (h ρ' ha).2 (by rw [← (E.sc_eq ha e hs.1).2.1]; exact hb))
      refine ⟨ρ', h1, fun hf => ?_, fun _ => h2⟩
      rw [← (E.sc_eq h1 e hs.1).2.1, hb] at hf
      cases hf
  | call key ks args v0 t ih =>
    intro n ρ I hs h
    simp only [Tr.sc, Bool.and_eq_true] at hs
    obtain ⟨ha, hv, ht⟩ := hs
    have hv' := Nat.eq_of_beq_eq_true hv
    subst hv'
    have ag1 : ∀ ρ', Ag (v0 + ks.length) (ρ.put v0 (sp.F key (args.D ρ))) ρ' → Ag v0 ρ ρ' := fun ρ' hag => (put_ag ρ v0 _).trans (hag.mono (by omega))
    have he : ∀ ρ', Ag (v0 + ks.length) (ρ.put v0 (sp.F key (args.D ρ))) ρ' → eqs ρ' (sp.F key (args.D ρ')) v0 0 ks := fun ρ' hag => by
      rw [← (E.sc_eq (ag1 ρ' hag) args ha).2.2.2.2]
      refine eqs_of ks 0 (fun m h1 h2 => ?_)
      have := hag (v0 + m) (by omega)
      simp only [Env.put, if_pos (Nat.le_add_right v0 m), Nat.add_sub_cancel_left] at this
      exact ⟨this.1.symm, this.2.1.symm, this.2.2.symm⟩
    obtain ⟨ρ', h1, h2⟩ := ih (v0 + ks.length) _ I ht (fun ρ' hag => (h ρ' (ag1 ρ' hag)).2 (he ρ' hag))
    exact ⟨ρ', ag1 ρ' h1, (h ρ' (ag1 ρ' h1)).1, he ρ' h1, h2⟩
  | loop lv v0 vks init body ih =>
    intro n ρ I hs h
    simp only [Tr.sc, Bool.and_eq_true] at hs
    obtain ⟨hi, hv, hb⟩ := hs
    have hv' := Nat.eq_of_beq_eq_true hv
    subst hv'
    obtain ⟨inv, μ, h1, h2⟩ := h ρ (Ag.refl _ _)
    refine ⟨ρ, Ag.refl _ _, inv, μ, h1, fun ds hd hin => ?_⟩
    obtain ⟨ρ', g1, g2⟩ := ih (v0 + vks.length) (ρ.put v0 ds) (upd I lv fun ds' => inv ds' ∧ μ ds' < μ ds) hb (fun ρ' hag => by
      have hvs := put_vars hd hag
      have := h2 ρ' ((put_ag ρ v0 ds).trans (hag.mono (by omega))) (by rw [hvs]; exact hd) (by rw [hvs]; exact hin)
      rw [hvs] at this
      exact this)
    exact ⟨ρ', (put_ag ρ v0 ds).trans (g1.mono (by omega)), put_vars hd g1, g2⟩
  | cut lv v0 vks pre body ihp ihb =>
    intro n ρ I hs h
    simp only [Tr.sc, Bool.and_eq_true] at hs
    obtain ⟨hv, hp, hb⟩ := hs
    have hv' := Nat.eq_of_beq_eq_true hv
    subst hv'
    let J : List Dt → Prop := fun ds => ∃ (ρ1 : Env) (inv : List Dt → Prop), Ag v0 ρ ρ1 ∧ inv ds ∧ ∀ ρ', Ag v0 ρ1 ρ' → okDs vks (varsD ρ' v0 vks) → inv (varsD ρ' v0 vks) → body.asks sp G ρ' I
    obtain ⟨ρ2, k1, k2⟩ := ihp v0 ρ (upd I lv J) hp (fun ρ' ha => by
      obtain ⟨inv, h1, h2⟩ := h ρ' ha
      refine pre.asks_mono ρ' _ _ (fun m ds => ?_) h1
      unfold upd
      split
      · exact fun hi => ⟨ρ', inv, ha, hi, h2⟩
      · exact id)
    refine ⟨ρ2, k1, J, k2, fun ds hd hin => ?_⟩
    obtain ⟨ρ1, inv, a1, a2, a3⟩ := hin
    obtain ⟨ρ', g1, g2⟩ := ihb (v0 + vks.length) (ρ1.put v0 ds) I hb (fun ρ' hag => by
      have hvs := put_vars hd hag
      exact a3 ρ' ((put_ag ρ1 v0 ds).trans (hag.mono (by omega))) (by rw [hvs]; exact hd) (by rw [hvs]; exact a2))
    exact ⟨ρ', (k1.symm.trans a1).trans ((put_ag ρ1 v0 ds).trans (g1.mono (by omega))), put_vars hd g1, g2⟩

/-! ### Types -/
def cSame : C → Value → Bool
  | .int k (.lit z), .int k' z' => kdSame k k' && zSame z z'
  | .bool (.tt b), .bool b' => b == b'
  | .nilp, .pointer none => true
  | .nsl, .slice none 0 0 => true
  | .nilf, .nilFunc => true
  | _, _ => false
def csSame : List C → List Value → Bool
  | [], [] => true
  | c :: cs, v :: vs => cSame c v && csSame cs vs
  | _, _ => false
theorem cSame_ok {c : C} {v : Value} (h : cSame c v = true) (ρ : Env) (j : J) : c.den ρ j = some v := by
  unfold cSame at h
  split at h
  · simp only [Bool.and_eq_true] at h
    rw [kdSame_eq h.1, zSame_eq h.2]; rfl
  · rw [beq_iff_eq] at h; rw [h]; rfl
  · rfl
  · rfl
  · rfl
  · cases h
theorem csSame_ok (ρ : Env) (j : J) : ∀ {cs : List C} {vs : List Value}, csSame cs vs = true → denL ρ j cs = some vs
  | [], [], _ => rfl
  | c :: cs, v :: vs, h => by
    simp only [csSame, Bool.and_eq_true] at h
    simp [denL, cSame_ok h.1, csSame_ok ρ j h.2]

def ckFields (P : Program) : List Field → List (Nat × Nat) → Bool
  | [], [] => true
  | f :: fs, (off, ft) :: l => Nat.beq f.offset off && (Nat.beq f.type ft && ((match P.info? ft with | some i => !Nat.beq i.size 0 | none => false) && ckFields P fs l))
  | _, _ => false
def ckTI (P : Program) (t : Nat) (i : TI) : Bool :=
  match P.info? t, P.underlying t with
  | some inf, some d =>
    Nat.beq inf.size i.size && ((match inf.zero with | some z => csSame i.zero z.cells.toList && Nat.beq z.cells.toList.length i.size | none => false) && (Nat.beq inf.bytes i.bytes &&
    (match d with
      | .struct fs => i.agg && (i.arr.isNone && (i.ik.isNone && (!i.isb && (i.sle.isNone && (!i.fnt && ckFields P fs.toList i.fields)))))
      | .array n e => i.agg && ((match i.arr with | some (m, e') => Nat.beq n m && Nat.beq e e' | none => false) && (i.ik.isNone && (!i.isb && (i.sle.isNone && (!i.fnt && i.fields.isEmpty)))))
      | .int k => !i.agg && (i.arr.isNone && ((match i.ik with | some k' => kdSame k k' | none => false) && (!i.isb && (i.sle.isNone && (!i.fnt && i.fields.isEmpty)))))
      | .bool => !i.agg && (i.arr.isNone && (i.ik.isNone && (i.sle.isNone && (!i.fnt && i.fields.isEmpty))))
      | .slice e => !i.agg && (i.arr.isNone && (i.ik.isNone && (!i.isb && ((match i.sle with | some e' => Nat.beq e e' | none => false) && (!i.fnt && i.fields.isEmpty)))))
      | .func _ _ _ => !i.agg && (i.arr.isNone && (i.ik.isNone && (!i.isb && (i.sle.isNone && i.fields.isEmpty))))
      | _ => !i.agg && (i.arr.isNone && (i.ik.isNone && (!i.isb && (i.sle.isNone && (!i.fnt && i.fields.isEmpty))))))))
  | _, _ => false

theorem ckFields_at {P : Program} : ∀ {fs : List Field} {l : List (Nat × Nat)}, ckFields P fs l = true → ∀ (f off ft : Nat), l[f]? = some (off, ft) → ∃ x, fs[f]? = some x ∧ x.offset = off ∧ x.type = ft ∧ ∃ i, P.info? ft = some i ∧ i.size ≠ 0
  | [], [], _, f, off, ft, h => by simp at h
  | x :: fs, (off', ft') :: l, hc, f, off, ft, h => by
    simp only [ckFields, Bool.and_eq_true] at hc
    cases f with
    | zero =>
      simp only [List.getElem?_cons_zero, Option.some.injEq, Prod.mk.injEq] at h
      obtain ⟨rfl, rfl⟩ := h
      refine ⟨x, rfl, Nat.eq_of_beq_eq_true hc.1, Nat.eq_of_beq_eq_true hc.2.1, ?_⟩
      have h3 := hc.2.2.1
      split at h3
      · rename_i i hi
        refine ⟨i, hi, fun e => ?_⟩
        rw [e] at h3
        simp at h3
      · cases h3
    | succ f => exact ckFields_at hc.2.2.2 f off ft (by simpa using h)

theorem ckFields_eq {P : Program} : ∀ {fs : List Field} {l : List (Nat × Nat)}, ckFields P fs l = true → fs.map (fun f => (f.offset, f.type)) = l
  | [], [], _ => rfl
  | x :: fs, (off', ft') :: l, hc => by
    simp only [ckFields, Bool.and_eq_true] at hc
    rw [List.map_cons, ckFields_eq hc.2.2.2, Nat.eq_of_beq_eq_true hc.1, Nat.eq_of_beq_eq_true hc.2.1]
theorem eq_fn {P : Program} {t : Nat} {a b c} (hd : P.underlying t = some (.func a b c)) (f : Nat) (w : World) : (Op.equal t (.func (.func f) #[] #[]) .nilFunc).run P w = .ok false w ∧ (Op.equal t .nilFunc .nilFunc).run P w = .ok true w := by
  unfold Op.equal
  have key : ∀ d x y, (Op.equalIn (d + 1) t x y).run P w = _ := fun d x y => by rw [Op.equalIn, Sem.run_bind, run_underlying hd]
  exact ⟨(key 9999 _ _).trans rfl, (key 9999 _ _).trans rfl⟩
theorem TIok_of {P : Program} {t : Nat} {i : TI} (h : ckTI P t i = true) (heq : i.eqok = true → ∀ vs us, kindsV vs i.zero → kindsV us i.zero → ∀ w, (Op.equal t (.agg vs.toArray) (.agg us.toArray)).run P w = .ok (eqVs vs us) w) (hgrd : i.eqok = true → P.eqGuardType P.depth t = false) : TIok P t i := by
  unfold ckTI at h
  split at h
  · rename_i inf d hinf hd
    simp only [Bool.and_eq_true] at h
    obtain ⟨h1, h2, hby, h3⟩ := h
    have hsz := Nat.eq_of_beq_eq_true h1
    have hti : ∀ w, (typeInfo t).run P w = .ok inf w := fun w => by simp [typeInfo, program, Sem.run_bind, Sem.run, hinf]
    obtain ⟨z, hz, hz1, hz2⟩ : ∃ z, inf.zero = some z ∧ csSame i.zero z.cells.toList = true ∧ z.cells.toList.length = i.size := by
      split at h2
      · rename_i z hz
        rw [Bool.and_eq_true] at h2
        exact ⟨z, hz, h2.1, Nat.eq_of_beq_eq_true h2.2⟩
      · cases h2
    clear h1 h2
    refine ⟨?_, fun w => by simp [sizeOf, Sem.run_bind, hti, hsz], ⟨z, fun w => by simp [zeroValue, Sem.run_bind, hti, hz], fun ρ j => csSame_ok ρ j hz1⟩, ?_, ?_, ?_, ?_, ?_, ⟨d, hd⟩, heq, hgrd, ?_, ?_, ?_, ⟨inf, z, hinf, hsz, Nat.eq_of_beq_eq_true hby, hz, hz2, fun ρ j => csSame_ok ρ j hz1⟩⟩
    · intro w
      unfold isAgg
      rw [Sem.run_bind, run_underlying hd]
      cases d <;> simp_all
    · intro f off ft hf w a
      cases d <;> simp_all
      rename_i fs
      obtain ⟨x, hx, rfl, rfl, inf', hi, hne⟩ := ckFields_at (P := P) h3.2.2.2.2.2.2 f off ft hf
      have hx' : fs[f]? = some x := by rw [← Array.getElem?_toList]; exact hx
      have hs : ∀ w, (sizeOf x.type).run P w = .ok inf'.size w := fun w => by simp [sizeOf, typeInfo, program, Sem.run_bind, Sem.run, hi]
      simp [Instr.fieldAt, run_underlying hd, Sem.run_bind, hx', Instr.sureAddr, fieldPlace, hs, hne]
    · intro f off ft hf w cs
      cases d <;> simp_all
      rename_i fs
      obtain ⟨x, hx, rfl, rfl, inf', hi, hne⟩ := ckFields_at (P := P) h3.2.2.2.2.2.2 f off ft hf
      have hx' : fs[f]? = some x := by rw [← Array.getElem?_toList]; exact hx
      simp [Instr.field, run_underlying hd, Sem.run_bind, hx', asAgg]
    · intro n e ha
      cases d <;> simp_all
    · intro h1 h2
      cases d <;> simp_all
      exact ckFields_eq (P := P) h3.2.2.2.2
    · intro k hk
      cases d <;> simp_all
      rw [kdSame_eq h3.2.2.1]
    · intro hb
      cases d <;> simp_all
    · intro e he
      cases d <;> simp_all
    · intro hb f w
      cases d <;> simp_all
      exact eq_fn hd f w
  · cases h
end Go.Proofs.YtcfnglbcgkappaaGreat

/- Contracts: arguments as data, a function's run as a contract. Nothing of the program is in here. -/
set_option linter.unusedVariables false
set_option linter.unusedSimpArgs false
namespace Go.Proofs.YtcfnglbcgkappaaGreat
open Go.RowKit

/-! ### Equality of structs -/
theorem kindsV_of : ∀ {z z' : List C} {vs : List Value}, kindsC z z' = true → kindsV vs z → kindsV vs z'
  | [], [], vs, _, h => h
  | .int k a :: l, .int k' b :: r, vs, hk, h => by
    simp only [kindsC, Bool.and_eq_true] at hk
    obtain ⟨x, us, rfl, h1, h2⟩ := kindsV_int h
    exact ⟨kdSame_eq hk.1, h1, kindsV_of hk.2 h2⟩
  | .bool a :: l, .bool b :: r, vs, hk, h => by
    simp only [kindsC] at hk
    obtain ⟨x, us, rfl, h2⟩ := kindsV_bool h
    exact kindsV_of (z := l) (z' := r) hk h2
def litsOf : List Value → List Lit
  | .int k x :: l => .int k x :: litsOf l
  | .bool b :: l => .bool b :: litsOf l
  | _ => []
theorem lits_iff : ∀ {z : List C} {vs us : List Value}, kindsV vs z → kindsV us z → (eqVs vs us = true ↔ litsOf vs = litsOf us)
  | [], vs, us, h, h' => by rw [kindsV_nil h, kindsV_nil h']; simp [eqVs]
  | .int k e :: r, vs, us, h, h' => by
    obtain ⟨x, l, rfl, _, h2⟩ := kindsV_int h
    obtain ⟨y, m, rfl, _, g2⟩ := kindsV_int h'
    simp [eqVs, litsOf, lits_iff h2 g2]
  | .bool e :: r, vs, us, h, h' => by
    obtain ⟨x, l, rfl, h2⟩ := kindsV_bool h
    obtain ⟨y, m, rfl, g2⟩ := kindsV_bool h'
    simp [eqVs, litsOf, lits_iff h2 g2]
  | .ptr _ _ :: _, vs, us, h, _ | .fp _ _ :: _, vs, us, h, _ | .fn _ :: _, vs, us, h, _ | .nilp :: _, vs, us, h, _ | .undef :: _, vs, us, h, _ | .sl _ :: _, vs, us, h, _ | .ep _ _ _ _ :: _, vs, us, h, _ | .nsl :: _, vs, us, h, _ | .nilf :: _, vs, us, h, _ => by
    cases vs with
    | nil => exact h.elim
    | cons v l => cases v <;> exact h.elim
/-- Equality of structs and arrays of whole numbers and truth values. -/
theorem eq_of_keys {P : Program} {t : Nat} {z : List C} (hk : P.keyTypeAt 6 t = true) (hf : ∀ vs, kindsV vs z → (Value.agg vs.toArray).formed P t = true) (D : Nat) (hl : ∀ vs, kindsV vs z → P.keyLits D t vs = some (litsOf vs)) (vs us : List Value) (hv : kindsV vs z) (hu : kindsV us z) (w : World) :
    (Op.equal t (.agg vs.toArray) (.agg us.toArray)).run P w = .ok (eqVs vs us) w := by
  obtain ⟨r, hr, hiff⟩ := run_equalIn_deep (P := P) 9994 6 t hk w D D (.agg vs.toArray) (.agg us.toArray) _ _ (hf vs hv) (hf us hu) (by simpa [Value.cells] using hl vs hv) (by simpa [Value.cells] using hl us hu)
  unfold Op.equal Op.maxDepth
  rw [show (10000 : Nat) = 9994 + 6 from rfl, hr]
  congr 1
  rw [Bool.eq_iff_iff, hiff, lits_iff hv hu]
theorem all_at {f : Nat → TI → Bool} {l : List (Nat × TI)} (h : (l.all fun p => f p.1 p.2) = true) {t : Nat} {i : TI} (hm : (t, i) ∈ l) : f t i = true := List.all_eq_true.1 h (t, i) hm


/-! ### Arguments -/
structure Ini where
  vk : List VK
  rows : List RowOb
  fb : List (List C)
def iniC (v id : Nat) : CK → C × List VK × List RowOb
  | .int k => (.int k (.var v), [.int k], [])
  | .bool => (.bool (.bvar v), [.bool], [])
  | .fn g => (.fn g, [], [])
  | .lit k z => (.int k (.lit z), [], [])
  | .sl ks ty => (.sl id, [.list ks], [⟨ks, ty, .lvar v, false⟩])
  | .nilf => (.nilf, [], [])
def iniL (v id : Nat) : List CK → List C × List VK × List RowOb
  | [] => ([], [], [])
  | k :: ks => let x := iniC v id k; let y := iniL (v + x.2.1.length) (id + x.2.2.length) ks; (x.1 :: y.1, x.2.1 ++ y.2.1, x.2.2 ++ y.2.2)
def iniA (v id fid : Nat) : List Sh → List V × List VK × List RowOb × List (List C)
  | [] => ([], [], [], [])
  | .one k :: ss => let x := iniC v id k; let y := iniA (v + x.2.1.length) (id + x.2.2.length) fid ss; (.one x.1 :: y.1, x.2.1 ++ y.2.1, x.2.2 ++ y.2.2.1, y.2.2.2)
  | .agg ks :: ss => let x := iniL v id ks; let y := iniA (v + x.2.1.length) (id + x.2.2.length) fid ss; (.agg x.1 :: y.1, x.2.1 ++ y.2.1, x.2.2 ++ y.2.2.1, y.2.2.2)
  | .ptr ks :: ss => let x := iniL v id ks; let y := iniA (v + x.2.1.length) (id + x.2.2.length) (fid + 1) ss; (.one (.fp fid 0) :: y.1, x.2.1 ++ y.2.1, x.2.2 ++ y.2.2.1, x.1 :: y.2.2.2)
def ckOk : CK → Bool
  | .sl ks _ => decide (0 < ks.length)
  | _ => true
def shOk (ss : List Sh) : Bool := ss.all fun s => s.cks.all ckOk

section
variable {P : Program} {sp : Spec} {ρ : Env} {w : World}
theorem varsD_app {ρ : Env} : ∀ (a b : List VK) (v : Nat), varsD ρ v (a ++ b) = varsD ρ v a ++ varsD ρ (v + a.length) b
  | [], b, v => rfl
  | k :: a, b, v => by
    simp only [List.cons_append, varsD, varsD_app a b (v + 1), List.length_cons]
    rw [show v + 1 + a.length = v + (a.length + 1) by omega]
theorem varsD_length {ρ : Env} : ∀ (a : List VK) (v : Nat), (varsD ρ v a).length = a.length
  | [], v => rfl
  | k :: a, v => by simp [varsD, varsD_length a (v + 1)]
theorem okDs_app : ∀ {a b : List VK} {x y : List Dt}, okDs a x → okDs b y → okDs (a ++ b) (x ++ y)
  | [], b, [], y, _, h => h
  | k :: a, b, d :: x, y, h, h' => ⟨h.1, okDs_app h.2 h'⟩
  | [], b, _ :: _, y, h, _ => h.elim
  | k :: a, b, [], y, h, _ => by cases k <;> exact h.elim
theorem okDs_len : ∀ {a : List VK} {x : List Dt}, okDs a x → x.length = a.length
  | [], [], _ => rfl
  | k :: a, d :: x, h => by simp [okDs_len h.2]
  | [], _ :: _, h => h.elim
  | k :: a, [], h => by cases k <;> exact h.elim
theorem b2i_01 (b : Bool) : b2i b = 0 ∨ b2i b = 1 := by cases b <;> simp [b2i]

/-- What the arguments' part tells: data, and where the rows lie. -/
structure ArgOk (w : World) (v id : Nat) (vk : List VK) (rows : List RowOb) (d : List Dt) (svs : List SV) (den : Env → J → Prop) : Prop where
  len : svs.length = rows.length
  ok : okDs vk d
  at' : ∀ (ρ : Env) (j : J), varsD ρ v vk = d → (∀ (i : Nat) s, svs[i]? = some s → j.s (id + i) = some s) → den ρ j ∧ ∀ (i : Nat) s q, svs[i]? = some s → rows[i]? = some q → q.own = false ∧ ∀ base, RowOk ρ base w s q

theorem iniC_ok {k : CK} {xs r : List Dt} {u : Value} (hk : ckOk k = true) (h : ckRel w k xs u r) (v id : Nat) : ∃ d svs, xs = d ++ r ∧ ArgOk w v id (iniC v id k).2.1 (iniC v id k).2.2 d svs (fun ρ j => (iniC v id k).1.den ρ j = some u) := by
  cases k with
  | int k =>
    obtain ⟨x, rfl, rfl, hx⟩ := h
    refine ⟨[.z x], [], rfl, rfl, ⟨hx, trivial⟩, fun ρ j hd _ => ⟨?_, fun i s q hs => by simp at hs⟩⟩
    simp only [iniC, varsD, varD, List.cons.injEq, Dt.z.injEq, and_true] at hd
    simp [iniC, C.den, E.I, hd]
  | bool =>
    obtain ⟨b, rfl, rfl⟩ := h
    refine ⟨[.z (b2i b)], [], rfl, rfl, ⟨b2i_01 b, trivial⟩, fun ρ j hd _ => ⟨?_, fun i s q hs => by simp at hs⟩⟩
    simp only [iniC, varsD, varD, List.cons.injEq, Dt.z.injEq, and_true] at hd
    simp [iniC, C.den, E.B, b2i_inj hd]
  | fn g => obtain ⟨rfl, rfl⟩ := h; exact ⟨[], [], rfl, rfl, trivial, fun ρ j _ _ => ⟨rfl, fun i s q hs => by simp at hs⟩⟩
  | lit k z => obtain ⟨rfl, rfl⟩ := h; exact ⟨[], [], rfl, rfl, trivial, fun ρ j _ _ => ⟨rfl, fun i s q hs => by simp at hs⟩⟩
  | nilf => obtain ⟨rfl, rfl⟩ := h; exact ⟨[], [], rfl, rfl, trivial, fun ρ j _ _ => ⟨rfl, fun i s q hs => by simp at hs⟩⟩
  | sl ks ty =>
    obtain ⟨L, s, rfl, rfl, hn, hrd, hrows, hlt⟩ := h
    refine ⟨[.l L], [s], rfl, rfl, ⟨hrows, trivial⟩, fun ρ j hd hs => ⟨?_, fun i s' q hs' hq => ?_⟩⟩
    · have := hs 0 s rfl
      simp only [Nat.add_zero] at this
      simp [iniC, C.den, this]
    · simp only [iniC, varsD, varD, List.cons.injEq, Dt.l.injEq, and_true] at hd
      cases i with
      | succ i => simp at hs'
      | zero =>
        simp only [iniC, List.getElem?_cons_zero, Option.some.injEq] at hs' hq
        subst hs' hq
        refine ⟨rfl, fun base => ⟨?_, ?_, of_decide_eq_true hk, hlt, fun ho => (by cases ho), ?_⟩⟩
        · simp only [E.R, hd]; exact hn
        · simp only [E.R, hd]; exact hrows
        · simp only [E.R, hd]; exact hrd
theorem ArgOk.app {v id : Nat} {vk1 vk2 : List VK} {rows1 rows2 : List RowOb} {d1 d2 : List Dt} {s1 s2 : List SV} {den1 den2 : Env → J → Prop} (h1 : ArgOk w v id vk1 rows1 d1 s1 den1) (h2 : ArgOk w (v + vk1.length) (id + rows1.length) vk2 rows2 d2 s2 den2) :
    ArgOk w v id (vk1 ++ vk2) (rows1 ++ rows2) (d1 ++ d2) (s1 ++ s2) (fun ρ j => den1 ρ j ∧ den2 ρ j) := by
  refine ⟨by simp [h1.len, h2.len], okDs_app h1.ok h2.ok, fun ρ j hd hs => ?_⟩
  rw [varsD_app] at hd
  obtain ⟨e1, e2⟩ := List.append_inj hd (by rw [varsD_length, okDs_len h1.ok])
  obtain ⟨a1, a2⟩ := h1.at' ρ j e1 (fun i s hi => hs i s (by rw [List.getElem?_append_left (List.getElem?_eq_some_iff.1 hi).1]; exact hi))
  obtain ⟨b1, b2⟩ := h2.at' ρ j e2 (fun i s hi => by
    have := hs (s1.length + i) s (by rw [List.getElem?_append_right (by omega), Nat.add_sub_cancel_left]; exact hi)
    rw [h1.len] at this
    rwa [Nat.add_assoc])
  refine ⟨⟨a1, b1⟩, fun i s q hi hq => ?_⟩
  rcases Nat.lt_or_ge i s1.length with hlt | hge
  · rw [List.getElem?_append_left hlt] at hi
    rw [List.getElem?_append_left (by rw [← h1.len]; exact hlt)] at hq
    exact a2 i s q hi hq
  · rw [List.getElem?_append_right hge] at hi
    rw [List.getElem?_append_right (by rw [← h1.len]; exact hge), ← h1.len] at hq
    exact b2 _ s q hi hq
theorem iniL_ok : ∀ {ks : List CK} {xs r : List Dt} {us : List Value}, ks.all ckOk = true → cksRel w ks xs us r → ∀ (v id : Nat), ∃ d svs, xs = d ++ r ∧ ArgOk w v id (iniL v id ks).2.1 (iniL v id ks).2.2 d svs (fun ρ j => denL ρ j (iniL v id ks).1 = some us)
  | [], xs, r, us, _, h, v, id => by
    obtain ⟨rfl, rfl⟩ := h
    exact ⟨[], [], rfl, rfl, trivial, fun ρ j _ _ => ⟨rfl, fun i s q hs => by simp at hs⟩⟩
  | k :: ks, xs, r, us, hk, h, v, id => by
    simp only [List.all_cons, Bool.and_eq_true] at hk
    obtain ⟨u, us', r', rfl, h1, h2⟩ := h
    obtain ⟨d1, s1, rfl, g1⟩ := iniC_ok hk.1 h1 v id
    obtain ⟨d2, s2, rfl, g2⟩ := iniL_ok hk.2 h2 (v + (iniC v id k).2.1.length) (id + (iniC v id k).2.2.length)
    refine ⟨d1 ++ d2, s1 ++ s2, by simp, ?_⟩
    obtain ⟨q1, q2, q3⟩ := g1.app g2
    refine ⟨q1, q2, fun ρ j hd hs => ?_⟩
    obtain ⟨⟨a1, a2⟩, a3⟩ := q3 ρ j hd hs
    exact ⟨by simp only [iniL, denL, a1, a2], a3⟩
/-- Boxes of the caller's. -/
def FbAt (w : World) (ρ : Env) (j : J) (fb : List (List C)) (fid : Nat) (fks : List Nat) : Prop :=
  ∀ (b : Nat) cs, fb[b]? = some cs → ∃ k vs, fks[b]? = some k ∧ k < w.heap.size ∧ denL ρ j cs = some vs ∧ ∀ (o : Nat) u, vs[o]? = some u → w.cell? ⟨k, o, none⟩ = some u
theorem iniA_ok : ∀ {ss : List Sh} {xs : List Dt} {vals : List Value}, shOk ss = true → shRel w ss xs vals → ∀ (v id fid : Nat), ∃ svs fks, fks.length = (iniA v id fid ss).2.2.2.length ∧ (iniA v id fid ss).1.length = vals.length ∧ ArgOk w v id (iniA v id fid ss).2.1 (iniA v id fid ss).2.2.1 xs svs (fun ρ j => (∀ (i : Nat) k, fks[i]? = some k → j.f (fid + i) = some k) → (∀ (i : Nat) x, (iniA v id fid ss).1[i]? = some x → ∃ u, vals[i]? = some u ∧ x.den ρ j = some u) ∧ FbAt w ρ j (iniA v id fid ss).2.2.2 fid fks)
  | [], xs, vals, _, h, v, id, fid => by
    obtain ⟨rfl, rfl⟩ := h
    exact ⟨[], [], rfl, rfl, rfl, trivial, fun ρ j _ _ => ⟨fun _ => ⟨fun i x hx => by simp [iniA] at hx, fun b cs hb => by simp [iniA] at hb⟩, fun i s q hs => by simp at hs⟩⟩
  | .one k :: ss, xs, vals, hk, h, v, id, fid => by
    simp only [shOk, List.all_cons, Bool.and_eq_true, Sh.cks, List.all_nil, Bool.and_true] at hk
    obtain ⟨u, us, r, rfl, h1, h2⟩ := h
    obtain ⟨d1, s1, rfl, g1⟩ := iniC_ok hk.1 h1 v id
    obtain ⟨s2, fks, hf, hl, g2⟩ := iniA_ok (ss := ss) hk.2 h2 (v + (iniC v id k).2.1.length) (id + (iniC v id k).2.2.length) fid
    obtain ⟨q1, q2, q3⟩ := g1.app g2
    refine ⟨s1 ++ s2, fks, hf, by simp [iniA, hl], q1, q2, fun ρ j hd hs => ?_⟩
    obtain ⟨⟨a1, a2⟩, a3⟩ := q3 ρ j hd hs
    refine ⟨fun hj => ?_, a3⟩
    obtain ⟨b1, b2⟩ := a2 hj
    refine ⟨fun i x hx => ?_, b2⟩
    cases i with
    | zero => simp only [iniA, List.getElem?_cons_zero, Option.some.injEq] at hx; subst hx; exact ⟨u, rfl, a1⟩
    | succ i => exact b1 i x (by simpa [iniA] using hx)
  | .agg ks :: ss, xs, vals, hk, h, v, id, fid => by
    simp only [shOk, List.all_cons, Bool.and_eq_true, Sh.cks] at hk
    obtain ⟨ws, us, r, rfl, h1, h2⟩ := h
    obtain ⟨d1, s1, rfl, g1⟩ := iniL_ok hk.1 h1 v id
    obtain ⟨s2, fks, hf, hl, g2⟩ := iniA_ok (ss := ss) hk.2 h2 (v + (iniL v id ks).2.1.length) (id + (iniL v id ks).2.2.length) fid
    obtain ⟨q1, q2, q3⟩ := g1.app g2
    refine ⟨s1 ++ s2, fks, hf, by simp [iniA, hl], q1, q2, fun ρ j hd hs => ?_⟩
    obtain ⟨⟨a1, a2⟩, a3⟩ := q3 ρ j hd hs
    refine ⟨fun hj => ?_, a3⟩
    obtain ⟨b1, b2⟩ := a2 hj
    refine ⟨fun i x hx => ?_, b2⟩
    cases i with
    | zero => simp only [iniA, List.getElem?_cons_zero, Option.some.injEq] at hx; subst hx; exact ⟨_, rfl, by simp [V.den, a1]⟩
    | succ i => exact b1 i x (by simpa [iniA] using hx)
  | .ptr ks :: ss, xs, vals, hk, h, v, id, fid => by
    simp only [shOk, List.all_cons, Bool.and_eq_true, Sh.cks] at hk
    obtain ⟨kk, ws, us, r, rfl, h1, hlt, hcell, h2⟩ := h
    obtain ⟨d1, s1, rfl, g1⟩ := iniL_ok hk.1 h1 v id
    obtain ⟨s2, fks, hf, hl, g2⟩ := iniA_ok (ss := ss) hk.2 h2 (v + (iniL v id ks).2.1.length) (id + (iniL v id ks).2.2.length) (fid + 1)
    obtain ⟨q1, q2, q3⟩ := g1.app g2
    refine ⟨s1 ++ s2, kk :: fks, by simp [iniA, hf], by simp [iniA, hl], q1, q2, fun ρ j hd hs => ?_⟩
    obtain ⟨⟨a1, a2⟩, a3⟩ := q3 ρ j hd hs
    refine ⟨fun hj => ?_, a3⟩
    obtain ⟨b1, b2⟩ := a2 (fun i k hi => by
      have := hj (i + 1) k (by simpa using hi)
      rwa [show fid + (i + 1) = fid + 1 + i by omega] at this)
    refine ⟨fun i x hx => ?_, fun b cs hb => ?_⟩
    · cases i with
      | zero =>
        simp only [iniA, List.getElem?_cons_zero, Option.some.injEq] at hx
        subst hx
        have := hj 0 kk rfl
        rw [Nat.add_zero] at this
        exact ⟨_, rfl, by simp [V.den, C.den, this]⟩
      | succ i => exact b1 i x (by simpa [iniA] using hx)
    · cases b with
      | zero =>
        simp only [iniA, List.getElem?_cons_zero, Option.some.injEq] at hb
        subst hb
        exact ⟨kk, ws, rfl, hlt, a1, fun o u hu => hcell o u hu⟩
      | succ b => exact b2 b cs (by simpa [iniA] using hb)

/-! ### A world in which arguments lie -/
theorem heap_alloc_lt (w : World) (o : Obj) : w.heap.size < (w.alloc o).heap.size := by
  have h := heap_alloc_new w o
  rcases Nat.lt_or_ge w.heap.size (w.alloc o).heap.size with h1 | h1
  · exact h1
  · rw [Array.getElem?_eq_none h1] at h; cases h
theorem ckRel_mono {w' : World} (hx : Ext w w') {k : CK} {xs r : List Dt} {u : Value} (h : ckRel w k xs u r) : ckRel w' k xs u r := by
  cases k with
  | sl ks ty =>
    obtain ⟨L, s, h1, h2, h3, h4, h5, h6⟩ := h
    exact ⟨L, s, h1, h2, h3, h4.kept (fun k hk => hx.block k (h6 k hk)), h5, fun k hk => Nat.lt_of_lt_of_le (h6 k hk) hx.size⟩
  | _ => exact h
theorem cksRel_mono {w' : World} (hx : Ext w w') : ∀ {ks : List CK} {xs r : List Dt} {us : List Value}, cksRel w ks xs us r → cksRel w' ks xs us r
  | [], _, _, _, h => h
  | k :: ks, xs, r, us, h => by
    obtain ⟨u, us', r', h1, h2, h3⟩ := h
    exact ⟨u, us', r', h1, ckRel_mono hx h2, cksRel_mono hx h3⟩
theorem shRel_mono {w' : World} (hx : Ext w w') : ∀ {ss : List Sh} {xs : List Dt} {vals : List Value}, shRel w ss xs vals → shRel w' ss xs vals
  | [], _, _, h => h
  | .one k :: ss, xs, vals, h => by
    obtain ⟨u, us, r, h1, h2, h3⟩ := h
    exact ⟨u, us, r, h1, ckRel_mono hx h2, shRel_mono hx h3⟩
  | .agg ks :: ss, xs, vals, h => by
    obtain ⟨u, us, r, h1, h2, h3⟩ := h
    exact ⟨u, us, r, h1, cksRel_mono hx h2, shRel_mono hx h3⟩
  | .ptr ks :: ss, xs, vals, h => by
    obtain ⟨k, u, us, r, h1, h2, h3, h4, h5⟩ := h
    refine ⟨k, u, us, r, h1, cksRel_mono hx h2, Nat.lt_of_lt_of_le h3 hx.size, fun o v ho => ?_, shRel_mono hx h5⟩
    rw [World.cell?_of_block (a := ⟨k, o, none⟩) (hx.block k h3)]
    exact h4 o v ho
/-- No list is too long. -/
def Lens (xs : List Dt) : Prop := ∀ L, Dt.l L ∈ xs → L.length ≤ maxLen
theorem Lens.tail {d : Dt} {xs : List Dt} (h : Lens (d :: xs)) : Lens xs := fun L hL => h L (List.mem_cons_of_mem _ hL)
theorem ck_exist {k : CK} {xs r : List Dt} (h : ckIn k xs r) (hl : Lens xs) (w : World) : ∃ w' u, Ext w w' ∧ ckRel w' k xs u r ∧ Lens r := by
  cases k with
  | int k => obtain ⟨x, rfl, hx⟩ := h; exact ⟨w, _, .refl w, ⟨x, rfl, rfl, hx⟩, hl.tail⟩
  | bool => obtain ⟨b, rfl⟩ := h; exact ⟨w, _, .refl w, ⟨b, rfl, rfl⟩, hl.tail⟩
  | fn g => exact ⟨w, _, .refl w, ⟨h, rfl⟩, by rw [← show xs = r from h]; exact hl⟩
  | lit k z => exact ⟨w, _, .refl w, ⟨h, rfl⟩, by rw [← show xs = r from h]; exact hl⟩
  | nilf => exact ⟨w, _, .refl w, ⟨h, rfl⟩, by rw [← show xs = r from h]; exact hl⟩
  | sl ks ty =>
    obtain ⟨L, rfl, hL⟩ := h
    have hlen : L.length ≤ maxLen := hl L List.mem_cons_self
    refine ⟨w.alloc (.cells (flat ks L).toArray ty), (SV.mk (some ⟨w.heap.size, 0, none⟩) L.length L.length).v, (Ext.refl w).alloc _, ⟨L, ⟨some ⟨w.heap.size, 0, none⟩, L.length, L.length⟩, rfl, rfl, rfl, ⟨flat_length hL, Nat.le_refl _, hlen, fun h => (by cases h), fun a ha i u hu => ?_⟩, ⟨hL, hlen⟩, fun k hk => ?_⟩, hl.tail⟩
    · cases ha
      have : (⟨w.heap.size, 0, none⟩ : Addr).add i = ⟨w.heap.size, i, none⟩ := by unfold Addr.add; split <;> simp_all
      rw [this, cell_row (heap_alloc_new w _)]
      exact hu
    · have hk := blk_some hk
      simp only [SV.v, Value.ownBlock, Option.some.injEq] at hk
      subst hk
      exact heap_alloc_lt w _
theorem cks_exist : ∀ {ks : List CK} {xs r : List Dt}, cksIn ks xs r → Lens xs → ∀ (w : World), ∃ w' us, Ext w w' ∧ cksRel w' ks xs us r ∧ Lens r
  | [], xs, r, h, hl, w => ⟨w, [], .refl w, ⟨h, rfl⟩, by rw [← show xs = r from h]; exact hl⟩
  | k :: ks, xs, r, h, hl, w => by
    obtain ⟨r', h1, h2⟩ := h
    obtain ⟨w1, u, e1, g1, l1⟩ := ck_exist h1 hl w
    obtain ⟨w2, us, e2, g2, l2⟩ := cks_exist h2 l1 w1
    exact ⟨w2, u :: us, e1.trans e2, ⟨u, us, r', rfl, ckRel_mono e2 g1, g2⟩, l2⟩
theorem args_exist : ∀ {ss : List Sh} {xs : List Dt}, argIn ss xs → Lens xs → ∀ (w : World), ∃ w' vals, Ext w w' ∧ shRel w' ss xs vals
  | [], xs, h, _, w => ⟨w, [], .refl w, h, rfl⟩
  | .one k :: ss, xs, h, hl, w => by
    obtain ⟨r, ⟨r1, h1, h2⟩, h3⟩ := h
    cases h2
    obtain ⟨w1, u, e1, g1, l1⟩ := ck_exist h1 hl w
    obtain ⟨w2, us, e2, g2⟩ := args_exist h3 l1 w1
    exact ⟨w2, u :: us, e1.trans e2, u, us, _, rfl, ckRel_mono e2 g1, g2⟩
  | .agg ks :: ss, xs, h, hl, w => by
    obtain ⟨r, h1, h3⟩ := h
    obtain ⟨w1, u, e1, g1, l1⟩ := cks_exist h1 hl w
    obtain ⟨w2, us, e2, g2⟩ := args_exist h3 l1 w1
    exact ⟨w2, _, e1.trans e2, u, us, _, rfl, cksRel_mono e2 g1, g2⟩
  | .ptr ks :: ss, xs, h, hl, w => by
    obtain ⟨r, h1, h3⟩ := h
    obtain ⟨w1, u, e1, g1, l1⟩ := cks_exist h1 hl w
    have e2 : Ext w1 (w1.alloc (.cells u.toArray 0)) := (Ext.refl w1).alloc _
    obtain ⟨w3, us, e3, g3⟩ := args_exist h3 l1 (w1.alloc (.cells u.toArray 0))
    have hlt : w1.heap.size < (w1.alloc (.cells u.toArray 0)).heap.size := heap_alloc_lt w1 _
    refine ⟨w3, _, e1.trans (e2.trans e3), w1.heap.size, u, us, _, rfl, cksRel_mono (e2.trans e3) g1, Nat.lt_of_lt_of_le hlt e3.size, fun o v ho => ?_, g3⟩
    rw [World.cell?_of_block (a := ⟨w1.heap.size, o, none⟩) (e3.block _ hlt), cell_row (heap_alloc_new w1 _)]
    exact ho
theorem argIn_free : ∀ {ss : List Sh} {xs : List Dt}, (ss.all fun s => s.cks.all fun k => !k.isSl) = true → argIn ss xs → Lens xs
  | [], xs, _, h => by cases h; intro L hL; cases hL
  | s :: ss, xs, hk, h => by
    simp only [List.all_cons, Bool.and_eq_true] at hk
    obtain ⟨r, h1, h2⟩ := h
    have ih := argIn_free hk.2 h2
    have key : ∀ (ks : List CK) (xs r : List Dt), ks.all (fun k => !k.isSl) = true → cksIn ks xs r → Lens r → Lens xs := by
      intro ks
      induction ks with
      | nil => intro xs r _ h hl; cases h; exact hl
      | cons k ks ihk =>
        intro xs r hk h hl
        simp only [List.all_cons, Bool.and_eq_true] at hk
        obtain ⟨r', h1, h2⟩ := h
        have l2 := ihk r' r hk.2 h2 hl
        cases k with
        | int k =>
          obtain ⟨x, rfl, _⟩ := h1
          intro L hL
          rcases List.mem_cons.1 hL with e | hL
          · cases e
          · exact l2 L hL
        | bool =>
          obtain ⟨x, rfl⟩ := h1
          intro L hL
          rcases List.mem_cons.1 hL with e | hL
          · cases e
          · exact l2 L hL
        | sl ks ty => simp [CK.isSl] at hk
        | _ => rw [show xs = r' from h1]; exact l2
    exact key _ xs r hk.1 h1 ih

/-! ### Contracts -/
theorem resIn_rng {ds : List Dt} {v0 : Nat} : ∀ (ks : List CK) (n : Nat), resIn ks (ds.drop n) → eqs ρ ds v0 n ks → (∀ (m : Nat) k, ks[m]? = some (.int k) → inK k (ρ.i (v0 + (n + m))) = true) ∧ ∀ (m : Nat) k ty, ks[m]? = some (.sl k ty) → RowsIn k (ρ.l (v0 + (n + m)))
  | [], n, _, _ => ⟨fun m k h => by simp at h, fun m k ty h => by simp at h⟩
  | k :: ks, n, h, he => by
    cases hd : ds.drop n with
    | nil => rw [hd] at h; cases k <;> exact h.elim
    | cons d r =>
      rw [hd] at h
      obtain ⟨d1, d2⟩ := drop_cons hd
      have main : resIn ks r ∧ eqs ρ ds v0 (n + 1) ks ∧ (∀ k', k = .int k' → inK k' (ρ.i (v0 + n)) = true) ∧ ∀ k' ty, k = .sl k' ty → RowsIn k' (ρ.l (v0 + n)) := by
        cases k with
        | int k =>
          cases d with
          | z x => exact ⟨h.2, he.2, fun k' e => (by cases e; rw [he.1, dI_of d1]; exact h.1), fun k' ty e => (by cases e)⟩
          | l L => exact h.elim
        | sl ks0 ty =>
          cases d with
          | z x => exact h.elim
          | l L => exact ⟨h.2, he.2, fun k' e => (by cases e), fun k' ty e => (by cases e; rw [he.1, dL_of d1]; exact h.1)⟩
        | bool => exact ⟨h, he.2, fun k' e => (by cases e), fun k' ty e => (by cases e)⟩
        | _ => exact ⟨h, he, fun k' e => (by cases e), fun k' ty e => (by cases e)⟩
      obtain ⟨m1, m2, m3, m4⟩ := main
      obtain ⟨i1, i2⟩ := resIn_rng ks (n + 1) (by rw [d2]; exact m1) m2
      refine ⟨fun m k' hm => ?_, fun m k' ty hm => ?_⟩
      · cases m with
        | zero => simp only [List.getElem?_cons_zero, Option.some.injEq] at hm; exact m3 k' hm
        | succ m =>
          have := i1 m k' (by simpa using hm)
          rwa [show n + (m + 1) = n + 1 + m by omega]
      · cases m with
        | zero => simp only [List.getElem?_cons_zero, Option.some.injEq] at hm; exact m4 k' ty hm
        | succ m =>
          have := i2 m k' ty (by simpa using hm)
          rwa [show n + (m + 1) = n + 1 + m by omega]
/-- A contract is known by its calls. -/
theorem SmOk.of_calls {s : Sm} (hl : (s.args.all fun a => a.cks.all fun k => !k.isSl) = true ∨ ∀ xs, sp.pre s.key xs → Lens xs)
    (h : ∀ xs vals w, shRel w s.args xs vals → sp.pre s.key xs →
      (∃ v w', (callFunc s.f vals.toArray).run P w = .ok (.value v) w' ∧ RetOk s.res s.tup w w' (sp.F s.key xs) v) ∨ ((callFunc s.f vals.toArray).run P w = .ok (.enter s.f vals.toArray) w ∧ Calls P s.f vals.toArray w fun e w' => ∃ v, e = .returned v ∧ RetOk s.res s.tup w w' (sp.F s.key xs) v)) : SmOk P sp s := by
  refine ⟨h, fun xs hin hpre ρ v0 he => ?_⟩
  have hlen : Lens xs := by
    rcases hl with hl | hl
    · exact argIn_free hl hin
    · exact hl xs hpre
  obtain ⟨w, vals, _, hw⟩ := args_exist hin hlen default
  have hres : resIn (s.res.flatMap (·.cks)) (sp.F s.key xs) := by
    rcases h xs vals w hw hpre with ⟨v, w', _, hr⟩ | ⟨_, hc⟩
    · exact hr.rng
    · obtain ⟨e, w', _, ⟨v, _, hr⟩, _⟩ := hc []
      exact hr.rng
  have he' : eqs ρ (sp.F s.key xs) v0 0 (s.res.flatMap (·.cks)) := he
  have := resIn_rng (ρ := ρ) (ds := sp.F s.key xs) (v0 := v0) (s.res.flatMap (·.cks)) 0 (by simpa using hres) he'
  simpa [Sm.ks] using this

def ForArgs : List VK → (List Dt → Prop) → Prop
  | [], p => p []
  | .int k :: l, p => ∀ x, inK k x = true → ForArgs l fun r => p (.z x :: r)
  | .bool :: l, p => ∀ b : Bool, ForArgs l fun r => p (.z (b2i b) :: r)
  | .list ks :: l, p => ∀ L, RowsIn ks L → ForArgs l fun r => p (.l L :: r)
theorem forArgs_ok : ∀ {l : List VK} {p : List Dt → Prop}, ForArgs l p → ∀ xs, okDs l xs → p xs
  | [], p, h, [], _ => h
  | .int k :: l, p, h, .z x :: r, ho => forArgs_ok (h x ho.1) r ho.2
  | .bool :: l, p, h, .z x :: r, ho => by
    rcases ho.1 with rfl | rfl
    · exact forArgs_ok (h false) r ho.2
    · exact forArgs_ok (h true) r ho.2
  | .list ks :: l, p, h, .l L :: r, ho => forArgs_ok (h L ho.1) r ho.2
  | [], p, h, _ :: _, ho => ho.elim
  | .int _ :: _, p, h, [], ho => ho.elim
  | .bool :: _, p, h, [], ho => ho.elim
  | .list _ :: _, p, h, [], ho => ho.elim
  | .int _ :: _, p, h, .l _ :: _, ho => ho.1.elim
  | .bool :: _, p, h, .l _ :: _, ho => ho.1.elim
  | .list _ :: _, p, h, .z _ :: _, ho => ho.1.elim

def keysB : List Sm → Bool
  | [] => true
  | s :: l => (l.all fun x => !Nat.beq x.key s.key) && keysB l
theorem keys_of : ∀ {l : List Sm}, keysB l = true → ∀ s ∈ l, ∀ s' ∈ l, s.key = s'.key → s = s'
  | [], _, s, hs, _, _, _ => by cases hs
  | x :: l, h, s, hs, s', hs', he => by
    simp only [keysB, Bool.and_eq_true, List.all_eq_true, Bool.not_eq_true'] at h
    rcases List.mem_cons.1 hs with rfl | hs <;> rcases List.mem_cons.1 hs' with rfl | hs'
    · rfl
    · have := h.1 s' (by assumption)
      rw [he] at this
      simp at this
    · have := h.1 s (by assumption)
      rw [he] at this
      simp at this
    · exact keys_of h.2 s (by assumption) s' (by assumption) he
theorem run_enter {P : Program} {f : FuncId} {fn : Func} (hf : P.funcs[f]? = some fn) (hname : (fn.name == "runtime.NumGoroutine") = false) (hb : fn.body.isNone = false) (args : Array Value) (w : World) : (callFunc f args).run P w = .ok (.enter f args) w := by
  have h1 : fn.name ≠ "runtime.NumGoroutine" := by simpa using hname
  cases hc : fn.body with
  | none => rw [hc] at hb; cases hb
  | some c => simp [callFunc, hf, h1, hc, program, Sem.run_bind, Sem.run]


def iniOf (ss : List Sh) : List V × List VK × List RowOb × List (List C) := iniA 0 0 0 ss
/-- The tree of a function. -/
def treeOf (ty : List (Nat × TI)) (sm : List Sm) (hints cuts : List (Nat × List Pl)) (fuel : Nat) (fn : Func) (args res : List Sh) : Tr :=
  funK ⟨ty, sm, res, (iniOf args).2.2.2, hints, cuts⟩ fuel fn (iniOf args).1 ((iniOf args).2.2.1.map .row) ⟨[], [], (iniOf args).2.1, 0⟩
def treeIs (ty : List (Nat × TI)) (sm : List Sm) (hints cuts : List (Nat × List Pl)) (fuel : Nat) (fn : Func) (args res : List Sh) (tup : Bool) (vks : List VK) (t : Tr) : Prop :=
  treeOf ty sm hints cuts fuel fn args res = t ∧ (iniOf args).2.1 = vks ∧ (t.sc vks.length && (shOk args && ((Nat.beq res.length 1 == !tup) && (keysB sm && (!(fn.name == "runtime.NumGoroutine") && !fn.body.isNone))))) = true

/-- A FUNCTION'S CONTRACT: its tree, and what is to be shown of it for all arguments. -/
theorem fun_calls {sp' : Spec} {f : Nat} {args res : List Sh} {tup : Bool} {ty : List (Nat × TI)} {sm : List Sm} {hints cuts : List (Nat × List Pl)} {fuel : Nat} {fn : Func} {vks : List VK} {t : Tr} {F : List Dt → List Dt} {pre : List Dt → Prop} (hm : P.follows .mixedOrders = true) (hT : ∀ t i, (t, i) ∈ ty → TIok P t i) (hS : ∀ s ∈ sm, SmOk P sp' s) (hf : P.funcs[f]? = some fn)
    (ht : treeIs ty sm hints cuts fuel fn args res tup vks t)
    (h : ForArgs vks fun xs => pre xs → ∀ ρ, varsD ρ 0 vks = xs → t.asks sp' (fun ρ e => e.D ρ = F xs) ρ fun _ _ => False) (xs : List Dt) (vals : List Value) (w : World) (hw : shRel w args xs vals) (hpre : pre xs) :
    (callFunc f vals.toArray).run P w = .ok (.enter f vals.toArray) w ∧ Calls P f vals.toArray w fun e w' => ∃ v, e = .returned v ∧ RetOk res tup w w' (F xs) v := by
  obtain ⟨ht1, hv1, ht2⟩ := ht
  simp only [Bool.and_eq_true, beq_iff_eq, Bool.not_eq_true'] at ht2
  obtain ⟨hsc, hok, htup, hkeys, hname, hbody⟩ := ht2
  refine ⟨run_enter hf hname hbody _ w, ?_⟩
  obtain ⟨svs, fks, hfl, hvl, harg⟩ := iniA_ok hok hw 0 0 0
  have hv2 : (iniA 0 0 0 args).2.1 = vks := hv1
  rw [hv2] at harg
  let ρ0 : Env := Env.put ⟨fun _ => 0, fun _ => false, fun _ => []⟩ 0 xs
  have hv0 : ∀ ρ', Ag vks.length ρ0 ρ' → varsD ρ' 0 vks = xs := fun ρ' ha => put_vars harg.ok (by rw [Nat.zero_add]; exact ha)
  obtain ⟨ρ', h1, h2⟩ := env_exists (G := fun ρ e => e.D ρ = F xs) t vks.length ρ0 (fun _ _ => False) hsc (fun ρ' ha => forArgs_ok h xs harg.ok hpre ρ' (hv0 ρ' ha))
  let j : J := ⟨fun _ => none, fun id => svs[id]?, fun b => fks[b]?⟩
  obtain ⟨a1, a2⟩ := harg.at' ρ' j (hv0 ρ' h1) (fun i s hi => by rw [Nat.zero_add]; exact hi)
  obtain ⟨a3, a4⟩ := a1 (fun i k hi => by rw [Nat.zero_add]; exact hi)
  rw [← ht1] at h2
  have hvk : Vk ρ' vks := by
    have hd := hv0 ρ' h1
    have ho := harg.ok
    have key : ∀ (l : List VK) (n : Nat), okDs l (varsD ρ' n l) → (∀ (i : Nat) k, l[i]? = some (.int k) → inK k (ρ'.i (n + i)) = true) ∧ ∀ (i : Nat) ks, l[i]? = some (.list ks) → RowsIn ks (ρ'.l (n + i)) := by
      intro l
      induction l with
      | nil => intro n _; exact ⟨fun i k h => by simp at h, fun i k h => by simp at h⟩
      | cons x l ih =>
        intro n h
        obtain ⟨i1, i2⟩ := ih (n + 1) h.2
        refine ⟨fun i k hk => ?_, fun i ks hk => ?_⟩
        · cases i with
          | zero => simp at hk; subst hk; exact h.1
          | succ i =>
            have := i1 i k (by simpa using hk)
            rwa [show n + (i + 1) = n + 1 + i by omega]
        · cases i with
          | zero => simp at hk; subst hk; exact h.1
          | succ i =>
            have := i2 i ks (by simpa using hk)
            rwa [show n + (i + 1) = n + 1 + i by omega]
    obtain ⟨k1, k2⟩ := key _ 0 (by rw [hd]; exact ho)
    exact ⟨fun i k hk => by have := k1 i k hk; rwa [Nat.zero_add] at this, fun i k hk => by have := k2 i k hk; rwa [Nat.zero_add] at this⟩
  refine funK_ok (ρ := ρ') (j := j) (kw := ⟨[], [], (iniOf args).2.1, 0⟩) (cx := ⟨ty, sm, res, (iniOf args).2.2.2, hints, cuts⟩) hm hT hS (keys_of hkeys) hf a3 hvl.symm htup h2 ⟨fun p hp => (by cases hp), by rw [hv1]; exact hvk, fun p hp => (by cases hp)⟩ w ⟨fun b ob hb => ?_, fun b hb => ?_, fun b => rfl, fun b cs hb => ?_⟩
  · rw [List.getElem?_map, Option.map_eq_some_iff] at hb
    obtain ⟨q, hq, rfl⟩ := hb
    have hlt : b < svs.length := by rw [harg.len]; exact (List.getElem?_eq_some_iff.1 hq).1
    obtain ⟨g1, g2⟩ := a2 b svs[b] q (List.getElem?_eq_getElem hlt) hq
    exact ⟨q, svs[b], rfl, g1, List.getElem?_eq_getElem hlt, g2 _⟩
  · rw [List.length_map] at hb
    exact List.getElem?_eq_none (by rw [harg.len]; exact hb)
  · exact a4 b cs hb
theorem sm0 {sp : Spec} : ∀ s ∈ ([] : List Sm), SmOk P sp s := fun _ h => by cases h
theorem smc {sp : Spec} {s : Sm} {l : List Sm} (h : SmOk P sp s) (h' : ∀ s ∈ l, SmOk P sp s) : ∀ x ∈ s :: l, SmOk P sp x := List.forall_mem_cons.2 ⟨h, h'⟩
theorem fun_ok {sp sp' : Spec} {s : Sm} {ty : List (Nat × TI)} {sm : List Sm} {hints cuts : List (Nat × List Pl)} {fuel : Nat} {fn : Func} {vks : List VK} {t : Tr} {F : List Dt → List Dt} {pre : List Dt → Prop} (hF : sp.F s.key = F) (hP : sp.pre s.key = pre) (hm : P.follows .mixedOrders = true) (hT : ∀ t i, (t, i) ∈ ty → TIok P t i) (hS : ∀ s ∈ sm, SmOk P sp' s) (hf : P.funcs[s.f]? = some fn)
    (ht : treeIs ty sm hints cuts fuel fn s.args s.res s.tup vks t) (hl : (s.args.all fun a => a.cks.all fun k => !k.isSl) = true ∨ ∀ xs, pre xs → Lens xs)
    (h : ForArgs vks fun xs => pre xs → ∀ ρ, varsD ρ 0 vks = xs → t.asks sp' (fun ρ e => e.D ρ = F xs) ρ fun _ _ => False) : SmOk P sp s :=
  SmOk.of_calls (by rw [hP]; exact hl) fun xs vals w hw hpre => .inr (by rw [hF]; rw [hP] at hpre; exact fun_calls hm hT hS hf ht h xs vals w hw hpre)

/-- A contract whose results hold no rows, by what is known of its calls. -/
theorem SmOk.pure {s : Sm} {F : List Dt → List Dt} (hF : sp.F s.key = F) (hl : (s.args.all fun a => a.cks.all fun k => !k.isSl) = true) (hr : ((s.res.flatMap (·.cks)).filter CK.isSl) = []) 
    (h : ∀ xs vals w, shRel w s.args xs vals → ∃ X, ((callFunc s.f vals.toArray).run P w = .ok (.value X) w ∨ ((callFunc s.f vals.toArray).run P w = .ok (.enter s.f vals.toArray) w ∧ Calls P s.f vals.toArray w fun e w' => e = .returned X ∧ Ext w w')) ∧ resIn (s.res.flatMap (·.cks)) (F xs) ∧ ∀ (ρ : Env) v0 nid j, eqs ρ (F xs) v0 0 (s.res.flatMap (·.cks)) → (resVof s.res s.tup v0 nid).den ρ j = some X) : SmOk P sp s := by
  refine SmOk.of_calls (.inl hl) fun xs vals w hw _ => ?_
  obtain ⟨X, h1, h2, h3⟩ := h xs vals w hw
  rw [hF]
  have ret : ∀ w', Ext w w' → RetOk s.res s.tup w w' (F xs) X := fun w' hx =>
    ⟨hx, h2, [], by rw [hr]; rfl, fun ρ v0 nid j he _ => h3 ρ v0 nid j he, fun ρ v0 _ i u r hu => by simp at hu, fun i i' u u' k hu => by simp at hu⟩
  rcases h1 with h1 | ⟨h1, hc⟩
  · exact .inl ⟨X, w, h1, ret w (.refl w)⟩
  · exact .inr ⟨h1, hc.mono fun e w' he => ⟨X, he.1, ret w' he.2⟩⟩
def cellIn : Value → Bool
  | .int k z => inK k z
  | _ => true
def partIn : Value → Bool
  | .agg cs => cs.toList.all cellIn
  | v => cellIn v
def valIn : Value → Bool
  | .tuple vs => vs.toList.all partIn
  | v => partIn v
/-- A law: the function says true. -/
theorem RetOk.says {w w' : World} {v : Value} (h : RetOk [.one .bool] false w w' [.z 1] v) : v = .bool true := by
  obtain ⟨svs, _, h1, _⟩ := h.svs
  have := h1 ⟨fun _ => 0, fun _ => true, fun _ => []⟩ 0 0 ⟨fun _ => none, fun id => svs[id]?, fun _ => none⟩ ⟨rfl, trivial⟩ (fun i u hi => by rw [Nat.zero_add]; exact hi)
  cases this
  rfl
@[simp] theorem b2i_eq_iff {a b : Bool} : (b2i a = b2i b) = (a = b) := propext ⟨b2i_inj, fun h => by rw [h]⟩
@[simp] theorem b2i_one {a : Bool} : (b2i a == 1) = a := b2i_eq a
theorem b2i_true : b2i true = 1 := rfl
theorem b2i_false : b2i false = 0 := rfl
theorem zb {a b : Bool} (h : a = b) : [Dt.z (b2i a)] = [Dt.z (b2i b)] := by rw [h]
theorem zi {a b : Int} (h : a = b) : [Dt.z a] = [Dt.z b] := by rw [h]
/-- A run of numbers, as arguments or results. -/
def E.vs (n : Nat) : Nat → E → E
  | 0, t => t
  | k + 1, t => .cons (.var n) (E.vs (n + 1) k t)
end
end Go.Proofs.YtcfnglbcgkappaaGreat

/- Arguments of a law as data: rows that lie in the memory of the call. Nothing of the program is in here. -/
set_option linter.unusedVariables false
set_option linter.unusedSimpArgs false
namespace Go.Proofs.YtcfnglbcgkappaaGreat
open Go.RowKit Go.ChangeShapes Go.WideShapes

/-- A type whose cells read as a row. -/
structure Rw (P : Program) (t : TypeId) (ks : List CE) : Prop where
  cells : P.cellsOf t = ks.length
  opn : ∀ {H : Type} {enc : TypeId × Value → H} {W : World} {sp : Nat → Bool} {hd : Bool} {fuel : Nat} {cs : List Value} {d : DataW H × List MemPlace},
    DataW.trod enc P W 0 sp hd fuel t cs = some d → ∃ r, cs = rowV ks r ∧ rowIn ks r = true
theorem inK_of_wf {k : IntKind} {x : Int} (h : (Lit.int k x).wf = true) : inK k x = true := by
  simp only [Lit.wf, Bool.and_eq_true, decide_eq_true_eq] at h
  rw [inK_iff]; exact h
theorem Rw.int {P : Program} {t : TypeId} (k : IntKind) (ht : P.underlying t = some (.int k)) (hc : P.cellsOf t = 1) : Rw P t [some k] where
  cells := hc
  opn := fun h => by
    obtain ⟨x, h1, _, h2⟩ := DataW.trod_int ht h
    exact ⟨[x], h1, by simp [rowIn, inCE, inK_of_wf h2]⟩
theorem Rw.bool {P : Program} {t : TypeId} (ht : P.underlying t = some .bool) (hc : P.cellsOf t = 1) : Rw P t [none] where
  cells := hc
  opn := fun h => by
    obtain ⟨x, h1, _⟩ := DataW.trod_bool ht h
    exact ⟨[b2i x], by cases x <;> exact h1, by cases x <;> rfl⟩
theorem rowV_app : ∀ {ks ks' : List CE} {r r' : List Int}, rowIn ks r = true → rowV (ks ++ ks') (r ++ r') = rowV ks r ++ rowV ks' r'
  | [], ks', [], r', _ => rfl
  | k :: ks, ks', x :: r, r', h => by
    simp only [rowIn, Bool.and_eq_true] at h
    simp only [List.cons_append, rowV, rowV_app h.2]
theorem rowIn_app : ∀ {ks ks' : List CE} {r r' : List Int}, rowIn ks r = true → rowIn ks' r' = true → rowIn (ks ++ ks') (r ++ r') = true
  | [], ks', [], r', _, h => h
  | k :: ks, ks', x :: r, r', h, h' => by
    simp only [rowIn, Bool.and_eq_true] at h
    simp only [List.cons_append, rowIn, h.1, rowIn_app h.2 h', Bool.and_self]
/-- The fields of a struct from a cell on. -/
structure RwSeq (P : Program) (off : Nat) (fs : List Field) (ks : List CE) : Prop where
  opn : ∀ {H : Type} {enc : TypeId × Value → H} {W : World} {sp : Nat → Bool} {hd : Bool} {n : Nat} {cs : List Value},
    (∀ f ∈ fs, ∃ y, DataW.trod enc P W 0 sp hd n f.type ((cs.drop f.offset).take (P.cellsOf f.type)) = some y) → cs.length = off + ks.length → ∃ r, cs.drop off = rowV ks r ∧ rowIn ks r = true
theorem RwSeq.nil (P : Program) (off : Nat) : RwSeq P off [] [] := ⟨fun _ hl => ⟨[], List.drop_eq_nil_of_le (by simp at hl; omega), rfl⟩⟩
theorem RwSeq.cons {P : Program} {off : Nat} {f : Field} {fs : List Field} {ks ks' : List CE} (r : Rw P f.type ks) (ho : f.offset = off) (s : RwSeq P (off + ks.length) fs ks') : RwSeq P off (f :: fs) (ks ++ ks') := ⟨fun {H} {enc} {W} {sp} {hd} {n} {cs} h hl => by
    obtain ⟨y, hy⟩ := h f (by simp)
    rw [r.cells, ho] at hy
    obtain ⟨a, ha, ha'⟩ := r.opn hy
    obtain ⟨b, hb, hb'⟩ := s.opn (fun g hg => h g (by simp [hg])) (by simp at hl; omega)
    refine ⟨a ++ b, ?_, rowIn_app ha' hb'⟩
    rw [rowV_app ha', ← ha, ← hb, ← List.drop_drop, List.take_append_drop]⟩
theorem Rw.struct {P : Program} {t : TypeId} {fs : Array Field} {ks : List CE} (s : RwSeq P 0 fs.toList ks) (ht : P.underlying t = some (.struct fs)) (hc : P.cellsOf t = ks.length) : Rw P t ks where
  cells := hc
  opn := fun {H} {enc} {W} {sp} {hd} {fuel} {cs} {d} h => by
    obtain ⟨xs, n, _, _, hl, hlen, hf⟩ := DataW.trod_struct ht h
    have := s.opn (enc := enc) (W := W) (sp := sp) (hd := hd) (n := n) (cs := cs) (fun f hm => by
      obtain ⟨i, hi, he⟩ := List.getElem_of_mem hm
      have hi' : i < fs.size := by simpa using hi
      have h1 := hf i f (by rw [Array.getElem?_eq_getElem hi']; simpa using congrArg some he)
      rw [List.getElem?_eq_getElem (by omega)] at h1
      exact ⟨_, h1⟩) (by omega)
    simpa using this

theorem list_of2 {α : Type} {n : Nat} {Q : Nat → α → Prop} (h : ∀ i, i < n → ∃ x, Q i x) : ∃ l : List α, l.length = n ∧ ∀ i x, l[i]? = some x → Q i x := by
  induction n with
  | zero => exact ⟨[], rfl, by simp⟩
  | succ n ih =>
    obtain ⟨l, hl, hq⟩ := ih (fun i hi => h i (by omega))
    obtain ⟨x, hx⟩ := h n (by omega)
    refine ⟨l ++ [x], by simp [hl], fun i y hy => ?_⟩
    rw [List.getElem?_append] at hy
    split at hy
    · exact hq i y hy
    · have : i = n := by
        rcases Nat.lt_or_ge (i - l.length) 1 with h1 | h1
        · omega
        · rw [List.getElem?_eq_none (by simpa using h1)] at hy; cases hy
      subst this
      have : i - l.length = 0 := by omega
      rw [this] at hy
      simp at hy
      subst hy
      exact hx
theorem cells_lt {W : World} {a : Addr} {n : Nat} {cs : List Value} (h : W.cells? 0 a n = some cs) (hn : 0 < n) : a.block < W.heap.size ∧ a.spot = none := by
  obtain ⟨_, hlen, hat⟩ := World.cells?_some h
  have h0 := hat 0 hn
  rw [List.getElem?_eq_getElem (by omega)] at h0
  obtain ⟨b, off, spot⟩ := a
  have hs : spot = none := by
    cases spot with
    | none => rfl
    | some s =>
      exfalso
      simp [Addr.add, World.cell?] at h0
      split at h0 <;> simp at h0
  subst hs
  refine ⟨?_, rfl⟩
  rcases Nat.lt_or_ge b W.heap.size with h1 | h1
  · exact h1
  · simp [Addr.add, World.cell?, Array.getElem?_eq_none h1] at h0
/-- An argument that is a row. -/
theorem sl_of_arg {P : Program} {t e : TypeId} {ks : List CE} (r : Rw P e ks) (hpos : 0 < ks.length) (ht : P.underlying t = some (.slice e)) {H : Type} {enc : TypeId × Value → H} {W : World} {hd : Bool} {v : Value} {d : DataW H} {p : List MemPlace} {rc : Reach} {b0 : Nat}
    (hv : Value.okWide P W rc b0 t v) (h : DataW.Trod enc P W 0 (fun _ => true) hd t v d p) : ∃ L s, v = s.v ∧ s.n = L.length ∧ RdRow W ks.length s (flat ks L) ∧ RowsIn ks L ∧ ∀ k, s.blk false = some k → k < W.heap.size := by
  obtain ⟨fuel, hf⟩ := h
  obtain ⟨a0, len0, cap0, rfl⟩ := okWide_slice ht hv
  have hcs : (Value.slice a0 len0 cap0).cells.toList = [.slice a0 len0 cap0] := rfl
  rw [hcs] at hf
  rcases Go.Deep.open_slice ht hf with ⟨h1, _⟩ | ⟨a, len, cap, m, n, D, Pl, h1, _, hl, hm, hmm, _, hel⟩
  · simp only [List.cons.injEq, Value.slice.injEq, and_true] at h1
    obtain ⟨rfl, rfl, rfl⟩ := h1
    exact ⟨[], ⟨none, 0, 0⟩, rfl, rfl, ⟨by simp [flat], Nat.le_refl _, by simp [maxLen], fun _ => ⟨rfl, rfl⟩, fun a ha => (by cases ha)⟩, ⟨fun r hr => (by cases hr), by simp⟩, fun k hk => by have := blk_some hk; cases this⟩
  · simp only [List.cons.injEq, Value.slice.injEq, and_true] at h1
    obtain ⟨rfl, rfl, rfl⟩ := h1
    have hmc : m = cap0 := by rw [hmm]; rfl
    subst hmc
    rw [r.cells] at hel
    have key : ∀ i, i < len0 → ∃ x, W.cells? 0 (a.add (i * ks.length)) ks.length = some (rowV ks x) ∧ rowIn ks x = true := fun i hi => by
      obtain ⟨cs', h1, h2⟩ := hel i (by omega)
      obtain ⟨x, hx, hx'⟩ := r.opn h2
      exact ⟨x, by rw [← hx]; exact h1, hx'⟩
    obtain ⟨L, hL, hq⟩ := list_of2 key
    have hrow : ∀ x ∈ L, rowIn ks x = true := fun x hx => by
      obtain ⟨i, hi, he⟩ := List.getElem_of_mem hx
      exact (hq i x (by rw [List.getElem?_eq_getElem hi, he])).2
    refine ⟨L, ⟨some a, len0, m⟩, rfl, hL.symm, ⟨?_, hl, hm, fun ha => (by cases ha), fun a' ha' i u hu => ?_⟩, ⟨hrow, by rw [hL]; exact Nat.le_trans hl hm⟩, fun k hk => ?_⟩
    · rw [flat_length hrow, hL]
    · cases ha'
      have hlt : i < (flat ks L).length := (List.getElem?_eq_some_iff.1 hu).1
      rw [flat_length hrow] at hlt
      have hi : i / ks.length < L.length := Nat.div_lt_of_lt_mul (by rw [Nat.mul_comm]; exact hlt)
      have hc : i % ks.length < ks.length := Nat.mod_lt _ hpos
      have e1 : i = i / ks.length * ks.length + i % ks.length := by rw [Nat.mul_comm]; exact (Nat.div_add_mod _ _).symm
      rw [e1, flat_get (List.getElem?_eq_getElem hc) hrow hi] at hu
      obtain ⟨q1, q2⟩ := hq (i / ks.length) L[i / ks.length] (List.getElem?_eq_getElem hi)
      obtain ⟨_, hlen, hat⟩ := World.cells?_some q1
      have h3 := hat (i % ks.length) hc
      rw [rowV_get q2 (List.getElem?_eq_getElem hc)] at h3
      have hg : L.getD (i / ks.length) [] = L[i / ks.length] := by rw [List.getD_eq_getElem?_getD, List.getElem?_eq_getElem hi]; rfl
      rw [hg] at hu
      rw [e1, ← addr_add_add, h3]
      exact hu
    · have hc : m ≠ 0 := fun hc => by
        unfold SV.blk at hk
        simp [hc] at hk
      obtain ⟨cs', h1, h2⟩ := hel 0 (by omega)
      have h4 := cells_lt h1 hpos
      have h5 := blk_some hk
      simp only [SV.v, Value.ownBlock, Option.some.injEq] at h5
      rw [← h5]
      have : (a.add (0 * ks.length)).block = a.block := by unfold Addr.add; split <;> rfl
      rw [← this]
      exact h4.1
end Go.Proofs.YtcfnglbcgkappaaGreat
