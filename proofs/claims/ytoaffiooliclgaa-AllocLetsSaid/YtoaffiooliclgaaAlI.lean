/- Contract of slices.Contains. -/
import Derived.Test.YtoaffiooliclgaaAlG
import Derived.Test.YtoaffiooliclgaaProg
import Derived.Laws.Externs
set_option linter.unusedVariables false
set_option linter.unusedSimpArgs false
namespace Go.Proofs.Ytoaffiooliclgaa
open Go.RowKit Go.ChangeShapes Go.WideShapes

def tys_AlI : List (Nat × TI) := [(3, ⟨false, 1, [.int .i64 (.lit 0)], [], none, some .i64, false, false, none, 8, false, none, false, 0⟩),
 (26, ⟨false, 1, [.int .i8 (.lit 0)], [], none, some .i8, false, false, none, 1, false, none, false, 0⟩),
 (43, ⟨false, 1, [.nsl], [], none, none, false, false, some 26, 24, false, none, false, 0⟩)]
set_option maxRecDepth 100000 in
theorem tysck_AlI : (tys_AlI.all fun p => ckTI Try.prog p.1 p.2) = true := by kernel_rfl
theorem tyseq_AlI : (tys_AlI.all fun p => !p.2.eqok) = true := by kernel_rfl
theorem tyskn_AlI : (tys_AlI.all fun p => !p.2.keyok) = true := by kernel_rfl
theorem tysok_AlI : ∀ t i, (t, i) ∈ tys_AlI → TIok Try.prog t i := by
  intro t i h
  refine TIok_of (all_at (f := ckTI Try.prog) tysck_AlI h) (fun he => ?_) (fun he => ?_) (fun he => ?_)
  · have h1 := List.all_eq_true.1 tyseq_AlI (t, i) h
    simp [he] at h1
  · have h1 := List.all_eq_true.1 tyseq_AlI (t, i) h
    simp [he] at h1
  · have h1 := List.all_eq_true.1 tyskn_AlI (t, i) h
    simp [he] at h1
def sM_acont (key : Nat) : Sm := ⟨26, key, [.one (.sl [some .i8] 26), .one (.int .i8)], [.one .bool], false⟩
def sV_acont (l : List (List Int)) (v : Int) : List Dt := [.z (b2i (aHas l v))]
def sF_acont : List Dt → List Dt
  | [.l x0, .z x1] => sV_acont x0 x1
  | _ => []
def sT_acont : Tr :=
(.loop 0 2 [.int .i64] (.cons (.lit 0) .nil)
(.br (.lt (.var 2) (.len (.lvar 0)))
(.br (.lt (.var 2) (.lit 0))
.panic
(.br (.eq (.var 1) (.get (.lvar 0) (.var 2) 0))
(.leaf (.consb (.not (.lt (.var 2) (.lit 0))) .nil))
(.next 0 (.cons (.bin .add .i64 (.var 2) (.lit 1)) .nil))))
(.leaf (.consb (.tt false) .nil))))
def sP_acont : Spec := ⟨fun k => match k with | _ => fun _ => [], fun k => match k with | _ => fun _ => True⟩
set_option maxRecDepth 100000 in
theorem sR_acont : treeIs tys_AlI [] [(37, Try.f37, [(2, [.tmpI 8 .i64, .top 9, .top 10, .top 5, .top 11, .top 12, .top 13, .top 14, .top 15, .top 16, .top 17, .top 4, .top 18])], [])] [] [] 200 Try.f26 [.one (.sl [some .i8] 26), .one (.int .i8)] [.one .bool] false [.list [some .i8], .int .i8] sT_acont := ⟨by kernel_rfl, by kernel_rfl, by kernel_rfl⟩
def sQ_acont : List Dt → Prop
  | [.l x0, .z x1] => let f (l : List (List Int)) (v : Int) : Prop := l.length ≤ maxLen; f x0 x1
  | _ => False
set_option maxRecDepth 100000 in
set_option maxHeartbeats 8000000 in
theorem sX_acont (l : List (List Int)) (hl : RowsIn [some .i8] l) (v : Int) (hv : inK .i8 v = true) (hp : sQ_acont [.l l, .z v]) (ρ : Env) (g : varsD ρ 0 [.list [some .i8], .int .i8] = [.l l, .z v]) : sT_acont.asks sP_acont (fun ρ e => e.D ρ = sF_acont [.l l, .z v]) ρ fun _ _ => False := by
  simp only [sQ_acont, b2i_one, Span.eta, Place.eta, P11.eta, spanAt_mk, spR_mk] at hp
  simp only [varsD, varD, List.cons.injEq, Dt.z.injEq, Dt.l.injEq, b2i_eq_iff, Nat.reduceAdd, and_true] at g
  simp only [sT_acont, sP_acont, sF_acont, sV_acont, Tr.asks, upd_same, okDs, okD, eqs, E.I, E.B, E.L, E.R, E.D, E.vs, dI, dB, dL, varD, varsD, List.getElem?_cons_zero, List.getElem?_cons_succ, List.cons_append, List.nil_append, Nat.zero_add, Nat.add_zero, Nat.reduceAdd, and_true, true_and, b2i_one, -eq_self, Span.eta, Place.eta, P11.eta, spanAt_mk, spR_mk, g]
  obtain ⟨k0_l0, k0_i1⟩ := g
  refine ⟨fun ds => ∃ i : Nat, ds = [.z (i : Int)] ∧ i ≤ l.length ∧ ∀ m, m < i → gt l (m : Int) 0 ≠ v, fun ds => l.length - (dI ds 0).toNat, ⟨0, rfl, Nat.zero_le _, fun m hm => absurd hm (Nat.not_lt_zero _)⟩, ?_⟩
  intro ρ1 ha1 _ hi1
  obtain ⟨i, k1_i2, hi, hu⟩ := hi1
  simp only [List.cons.injEq, Dt.z.injEq, Dt.l.injEq, b2i_eq_iff, and_true] at k1_i2
  have k1_l0 : ρ1.l 0 = _ := (ha1 0 (by decide)).2.2.symm.trans k0_l0
  have k1_i1 : ρ1.i 1 = _ := (ha1 1 (by decide)).1.symm.trans k0_i1
  simp only [k1_l0, k1_i1, k1_i2, spanAt_mk, spR_mk, -eq_self]
  refine ⟨fun c0 => ?_, fun c0 => ?_⟩
  refine ⟨fun c1 => ?_, fun c1 => ?_⟩
  · exact absurd (of_decide_eq_true c1) (by omega)
  refine ⟨fun c2 => ?_, fun c2 => ?_⟩
  · rw [show aHas l v = true from decide_eq_true ⟨i, (Int.ofNat_lt.1 (of_decide_eq_true c0)), (eqI c2).symm⟩]; try rfl
  · rw [addN (Int.ofNat_lt.1 (of_decide_eq_true c0)) hp]
    exact ⟨⟨i + 1, rfl, (Int.ofNat_lt.1 (of_decide_eq_true c0)), fun m hm => by
      by_cases e : m = i
      · subst e; exact fun h => neI c2 h.symm
      · exact hu m (by omega)⟩, by have hi0 := (Int.ofNat_lt.1 (of_decide_eq_true c0)); show l.length - (((i + 1 : Nat) : Int)).toNat < l.length - ((i : Int)).toNat; omega⟩
  · rw [show aHas l v = false from decide_eq_false (fun q => by obtain ⟨m, h1, h2⟩ := q; exact hu m (by have := of_decide_eq_false c0; omega) h2)]; try rfl
theorem sK_acont {sp : Spec} {key : Nat} (hF : sp.F key = sF_acont) (hP : sp.pre key = sQ_acont) : SmOk Try.prog sp (sM_acont key) :=
  fun_ok (s := sM_acont key) hF hP (by kernel_rfl) tysok_AlI (sm0) Try.func26 (fnc Try.func37 fn0) sR_acont (.inr (fun xs h L hL => by unfold sQ_acont at h; split at h <;> first | exact h.elim | (simp at hL; subst hL; exact h))) (fun x0 gx0 x1 gx1 hp ρ g => sX_acont x0 gx0 x1 gx1 hp ρ g)
end Go.Proofs.Ytoaffiooliclgaa
