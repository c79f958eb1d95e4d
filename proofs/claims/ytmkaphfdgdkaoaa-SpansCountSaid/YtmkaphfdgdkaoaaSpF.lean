/- Contracts of spans.Of and Meet; the law SpansLive. -/
import Derived.Test.YtmkaphfdgdkaoaaSpD
import Derived.Test.YtmkaphfdgdkaoaaSpE
import Derived.Test.YtmkaphfdgdkaoaaProg
import Derived.Laws.Externs
set_option linter.unusedVariables false
set_option linter.unusedSimpArgs false
namespace Go.Proofs.Ytmkaphfdgdkaoaa
open Go.RowKit Go.ChangeShapes Go.WideShapes

def tys_SpF : List (Nat × TI) := [(3, ⟨false, 1, [.int .i64 (.lit 0)], [], none, some .i64, false, false, none, 8, false, none, false⟩),
 (4, ⟨false, 1, [.bool (.tt false)], [], none, none, false, true, none, 1, false, none, false⟩),
 (22, ⟨false, 1, [.nsl], [], none, none, false, false, some 33, 24, false, none, false⟩),
 (24, ⟨true, 2, [.int .i64 (.lit 0), .nsl], [(0, 3), (1, 22)], none, none, false, false, none, 32, false, none, false⟩),
 (27, ⟨false, 1, [.nsl], [], none, none, false, false, some 3, 24, false, none, false⟩),
 (28, ⟨false, 1, [.int .i64 (.lit 0)], [], none, some .i64, false, false, none, 8, false, none, false⟩),
 (31, ⟨false, 1, [.int .i8 (.lit 0)], [], none, some .i8, false, false, none, 1, false, none, false⟩),
 (33, ⟨true, 9, [.int .i8 (.lit 0), .int .i8 (.lit 0), .int .i8 (.lit 0), .int .i8 (.lit 0), .bool (.tt false), .int .i8 (.lit 0), .int .i8 (.lit 0), .int .i64 (.lit 0), .int .i64 (.lit 0)], [(0, 31), (1, 31), (2, 31), (3, 31), (4, 4), (5, 31), (6, 31), (7, 3), (8, 3)], none, none, true, false, none, 24, false, none, false⟩),
 (42, ⟨false, 1, [.nsl], [], none, none, false, false, some 47, 24, false, none, false⟩),
 (47, ⟨true, 4, [.int .i64 (.lit 0), .int .i64 (.lit 0), .int .i64 (.lit 0), .bool (.tt false)], [(0, 3), (1, 3), (2, 3), (3, 4)], none, none, true, false, none, 32, false, none, false⟩)]
set_option maxRecDepth 100000 in
theorem tysck_SpF : (tys_SpF.all fun p => ckTI Try.prog p.1 p.2) = true := by kernel_rfl
theorem tyseq_SpF : (tys_SpF.all fun p => !p.2.eqok || ((Nat.beq p.1 33 && kindsC p.2.zero z_Ins) || (Nat.beq p.1 47 && kindsC p.2.zero z_Span))) = true := by kernel_rfl
theorem tyskn_SpF : (tys_SpF.all fun p => !p.2.keyok) = true := by kernel_rfl
theorem tysok_SpF : ∀ t i, (t, i) ∈ tys_SpF → TIok Try.prog t i := by
  intro t i h
  refine TIok_of (all_at (f := ckTI Try.prog) tysck_SpF h) (fun he => ?_) (fun he => ?_) (fun he => ?_)
  · have h1 := List.all_eq_true.1 tyseq_SpF (t, i) h
    simp only [he, Bool.not_true, Bool.false_or, Bool.or_eq_true, Bool.and_eq_true] at h1
    rcases h1 with h1 | h1
    · have hs := h1.2
      obtain rfl := Nat.eq_of_beq_eq_true h1.1
      exact fun vs us hv hu => eq_Ins vs us (kindsV_of hs hv) (kindsV_of hs hu)
    · have hs := h1.2
      obtain rfl := Nat.eq_of_beq_eq_true h1.1
      exact fun vs us hv hu => eq_Span vs us (kindsV_of hs hv) (kindsV_of hs hu)
  · have h1 := List.all_eq_true.1 tyseq_SpF (t, i) h
    simp only [he, Bool.not_true, Bool.false_or, Bool.or_eq_true, Bool.and_eq_true] at h1
    rcases h1 with h1 | h1
    · have hs := h1.2
      obtain rfl := Nat.eq_of_beq_eq_true h1.1
      exact grd_Ins
    · have hs := h1.2
      obtain rfl := Nat.eq_of_beq_eq_true h1.1
      exact grd_Span
  · have h1 := List.all_eq_true.1 tyskn_SpF (t, i) h
    simp [he] at h1
def sM_sof (key : Nat) : Sm := ⟨31, key, [.one (.sl [some .i64, some .i64, some .i64, none] 47), .one (.int .i64)], [.agg kSpan, .one .bool], true⟩
def sV_sof (l : List (List Int)) (r : Int) : List Dt := [.z (((sOf l r).1).reg), .z (((sOf l r).1).fr), .z (((sOf l r).1).to), .z (b2i (((sOf l r).1).ov)), .z (b2i ((sOf l r).2))]
def sF_sof : List Dt → List Dt
  | [.l x0, .z x1] => sV_sof x0 x1
  | _ => []
def sT_sof : Tr :=
(.loop 0 2 [.int .i64] (.cons (.lit 0) .nil)
(.br (.lt (.var 2) (.len (.lvar 0)))
(.br (.lt (.var 2) (.lit 0))
.panic
(.br (.eq (.get (.lvar 0) (.var 2) 0) (.var 1))
(.leaf (.cons (.get (.lvar 0) (.var 2) 0) (.cons (.get (.lvar 0) (.var 2) 1) (.cons (.get (.lvar 0) (.var 2) 2) (.consb (.getb (.lvar 0) (.var 2) 3) (.consb (.tt true) .nil))))))
(.next 0 (.cons (.bin .add .i64 (.var 2) (.lit 1)) .nil))))
(.leaf (.cons (.lit 0) (.cons (.lit 0) (.cons (.lit 0) (.consb (.tt false) (.consb (.tt false) .nil))))))))
def sP_sof : Spec := ⟨fun k => match k with | _ => fun _ => [], fun k => match k with | _ => fun _ => True⟩
set_option maxRecDepth 100000 in
theorem sR_sof : treeIs tys_SpF [] [(54, Try.f54, [(2, [.tmpI 10 .i64, .top 11, .top 12, .top 13, .top 7, .top 14, .top 15, .top 16, .top 17, .top 5, .top 18])], []), (55, Try.f55, [], [])] [] [] 200 Try.f31 [.one (.sl [some .i64, some .i64, some .i64, none] 47), .one (.int .i64)] [.agg kSpan, .one .bool] true [.list [some .i64, some .i64, some .i64, none], .int .i64] sT_sof := ⟨by kernel_rfl, by kernel_rfl, by kernel_rfl⟩
def sQ_sof : List Dt → Prop
  | [.l x0, .z x1] => let f (l : List (List Int)) (r : Int) : Prop := l.length ≤ maxLen; f x0 x1
  | _ => False
set_option maxRecDepth 100000 in
set_option maxHeartbeats 8000000 in
theorem sX_sof (l : List (List Int)) (hl : RowsIn [some .i64, some .i64, some .i64, none] l) (r : Int) (hr : inK .i64 r = true) (hp : sQ_sof [.l l, .z r]) (ρ : Env) (g : varsD ρ 0 [.list [some .i64, some .i64, some .i64, none], .int .i64] = [.l l, .z r]) : sT_sof.asks sP_sof (fun ρ e => e.D ρ = sF_sof [.l l, .z r]) ρ fun _ _ => False := by
  simp only [sQ_sof, b2i_one, Ins.eta, Prog.eta, insAt_mk, Span.eta, spanAt_mk] at hp
  simp only [varsD, varD, List.cons.injEq, Dt.z.injEq, Dt.l.injEq, b2i_eq_iff, Nat.reduceAdd, and_true] at g
  simp only [sT_sof, sP_sof, sF_sof, sV_sof, Tr.asks, upd_same, okDs, okD, eqs, E.I, E.B, E.L, E.R, E.D, E.vs, dI, dB, dL, varD, varsD, List.getElem?_cons_zero, List.getElem?_cons_succ, List.cons_append, List.nil_append, Nat.zero_add, Nat.add_zero, Nat.reduceAdd, and_true, true_and, b2i_one, -eq_self, Ins.eta, Prog.eta, insAt_mk, Span.eta, spanAt_mk, g]
  obtain ⟨k0_l0, k0_i1⟩ := g
  refine ⟨fun ds => ∃ j : Nat, ds = [.z (j : Int)] ∧ j ≤ l.length ∧ ∀ i : Nat, i < j → gt l (i : Int) 0 ≠ r, fun ds => l.length - (dI ds 0).toNat, ⟨0, rfl, Nat.zero_le _, fun i hi => absurd hi (by omega)⟩, ?_⟩
  intro ρ1 ha1 _ hi1
  obtain ⟨j, k1_i2, hj, hn⟩ := hi1
  simp only [List.cons.injEq, Dt.z.injEq, and_true] at k1_i2
  have k1_l0 : ρ1.l 0 = _ := (ha1 0 (by decide)).2.2.symm.trans k0_l0
  have k1_i1 : ρ1.i 1 = _ := (ha1 1 (by decide)).1.symm.trans k0_i1
  simp only [k1_l0, k1_i1, k1_i2, insAt_mk, spanAt_mk, -eq_self]
  refine ⟨fun c0 => ?_, fun c0 => ?_⟩
  refine ⟨fun c1 => ?_, fun c1 => ?_⟩
  · exact absurd (of_decide_eq_true c1) (by omega)
  refine ⟨fun c2 => ?_, fun c2 => ?_⟩
  · rw [sof_y hn (Int.ofNat_lt.1 (of_decide_eq_true c0)) (eqI c2)]; try rfl
  · have hj2 := Int.ofNat_lt.1 (of_decide_eq_true c0)
    rw [addN hj2 hp]
    exact ⟨⟨j + 1, rfl, hj2, fst_step hn (neI c2)⟩, by show l.length - (((j + 1 : Nat) : Int)).toNat < l.length - ((j : Int)).toNat; omega⟩
  · rw [sof_n hn (fun h => of_decide_eq_false c0 (Int.ofNat_lt.2 h))]; try rfl
theorem sK_sof {sp : Spec} {key : Nat} (hF : sp.F key = sF_sof) (hP : sp.pre key = sQ_sof) : SmOk Try.prog sp (sM_sof key) :=
  fun_ok (s := sM_sof key) hF hP (by kernel_rfl) tysok_SpF (sm0) Try.func31 (fnc Try.func54 (fnc Try.func55 fn0)) sR_sof (.inr (fun xs h L hL => by unfold sQ_sof at h; split at h <;> first | exact h.elim | (simp at hL; subst hL; exact h))) (fun x0 gx0 x1 gx1 hp ρ g => sX_sof x0 gx0 x1 gx1 hp ρ g)
def sM_smeet (key : Nat) : Sm := ⟨33, key, [.agg kSpan, .agg kSpan], [.one .bool], false⟩
def sV_smeet (a : Span) (b : Span) : List Dt := [.z (b2i (sMeet a b))]
def sF_smeet : List Dt → List Dt
  | [.z x0, .z x1, .z x2, .z x3, .z x4, .z x5, .z x6, .z x7] => sV_smeet ⟨x0, x1, x2, (x3 == 1)⟩ ⟨x4, x5, x6, (x7 == 1)⟩
  | _ => []
def sT_smeet : Tr :=
(.br (.lt (.var 2) (.var 1))
(.leaf (.consb (.tt false) .nil))
(.br (.lt (.var 6) (.var 5))
(.leaf (.consb (.tt false) .nil))
(.leaf (.consb (.not (.lt (.mn (.var 2) (.var 6)) (.mx (.var 1) (.var 5)))) .nil))))
def sP_smeet : Spec := ⟨fun k => match k with | _ => fun _ => [], fun k => match k with | _ => fun _ => True⟩
set_option maxRecDepth 100000 in
theorem sR_smeet : treeIs tys_SpF [] [] [] [] 200 Try.f33 [.agg kSpan, .agg kSpan] [.one .bool] false [.int .i64, .int .i64, .int .i64, .bool, .int .i64, .int .i64, .int .i64, .bool] sT_smeet := ⟨by kernel_rfl, by kernel_rfl, by kernel_rfl⟩
set_option maxRecDepth 100000 in
set_option maxHeartbeats 8000000 in
theorem sX_smeet (a : Span) (ha : Span.ok a) (b : Span) (hb : Span.ok b) (ρ : Env) (g : varsD ρ 0 [.int .i64, .int .i64, .int .i64, .bool, .int .i64, .int .i64, .int .i64, .bool] = [.z a.reg, .z a.fr, .z a.to, .z (b2i a.ov), .z b.reg, .z b.fr, .z b.to, .z (b2i b.ov)]) : sT_smeet.asks sP_smeet (fun ρ e => e.D ρ = sF_smeet [.z a.reg, .z a.fr, .z a.to, .z (b2i a.ov), .z b.reg, .z b.fr, .z b.to, .z (b2i b.ov)]) ρ fun _ _ => False := by
  simp only [varsD, varD, List.cons.injEq, Dt.z.injEq, Dt.l.injEq, b2i_eq_iff, Nat.reduceAdd, and_true] at g
  simp only [sT_smeet, sP_smeet, sF_smeet, sV_smeet, Tr.asks, upd_same, okDs, okD, eqs, E.I, E.B, E.L, E.R, E.D, E.vs, dI, dB, dL, varD, varsD, List.getElem?_cons_zero, List.getElem?_cons_succ, List.cons_append, List.nil_append, Nat.zero_add, Nat.add_zero, Nat.reduceAdd, and_true, true_and, b2i_one, -eq_self, Ins.eta, Prog.eta, insAt_mk, Span.eta, spanAt_mk, g]
  refine ⟨fun c0 => ?_, fun c0 => ?_⟩
  · rw [show sMeet a b = false from decide_eq_false (fun h => by have := of_decide_eq_true c0; omega)]; try rfl
  refine ⟨fun c1 => ?_, fun c1 => ?_⟩
  · rw [show sMeet a b = false from decide_eq_false (fun h => by have := of_decide_eq_true c1; omega)]; try rfl
  · have e : sMeet a b = !decide (min a.to b.to < max a.fr b.fr) := by unfold sMeet; rw [Bool.eq_iff_iff]; simp at *; omega
    rw [e]; try rfl
theorem sK_smeet {sp : Spec} {key : Nat} (hF : sp.F key = sF_smeet) (hP : sp.pre key = fun _ => True := by rfl) : SmOk Try.prog sp (sM_smeet key) :=
  fun_ok (s := sM_smeet key) hF hP (by kernel_rfl) tysok_SpF (sm0) Try.func33 fn0 sR_smeet (.inl rfl) (fun x0 gx0 x1 gx1 x2 gx2 x3 x4 gx4 x5 gx5 x6 gx6 x7 hp ρ g => sX_smeet ⟨x0, x1, x2, x3⟩ ⟨gx0, gx1, gx2⟩ ⟨x4, x5, x6, x7⟩ ⟨gx4, gx5, gx6⟩ ρ g)
def sM_slive (key : Nat) : Sm := ⟨7, key, [.agg kProg], [.one .bool], false⟩
def sV_slive (pr : Prog) : List Dt := [.z (b2i true)]
def sF_slive : List Dt → List Dt
  | [.z x0, .l x1] => sV_slive ⟨x0, x1⟩
  | _ => []
set_option maxRecDepth 100000 in
def sT_slive : Tr :=
(.br (.lt (.lit 100) (.len (.lvar 1)))
(.call 2 ([.bool]) .nil 2
(.leaf (.consb (.bvar 2) .nil)))
(.call 0 ([.sl [some .i64, some .i64, some .i64, none] 47] ++ [.int .i64]) (.cons (.var 0) (.consl (.lvar 1) .nil)) 2
(.call 1 ([.sl [some .i64] 3] ++ [.sl [some .i64] 3] ++ [.int .i64]) (.cons (.var 0) (.consl (.lvar 1) .nil)) 4
(.br (.eq (.var 3) (.var 6))
(.br (.eq (.var 3) (.lit 0))
(.loop 0 7 [.int .i64] (.cons (.lit 0) .nil)
(.br (.lt (.var 7) (.lit 11))
(.call 3 (kSpan ++ [.bool]) (.consl (.lvar 2) (.cons (.var 7) .nil)) 8
(.loop 1 13 [.int .i64] (.cons (.lit 0) .nil)
(.br (.lt (.var 13) (.len (.lvar 4)))
(.br (.lt (.var 13) (.lit 0))
.panic
(.br (.lt (.var 13) (.len (.lvar 5)))
(.br (.lt (.var 7) (.lit 0))
.panic
(.br (.lt (.var 13) (.len (.lvar 1)))
(.call 4 ([.int .i64]) (.cons (.get (.lvar 1) (.var 13) 0) (.cons (.get (.lvar 1) (.var 13) 1) (.cons (.get (.lvar 1) (.var 13) 2) (.cons (.get (.lvar 1) (.var 13) 3) (.consb (.getb (.lvar 1) (.var 13) 4) (.cons (.get (.lvar 1) (.var 13) 5) (.cons (.get (.lvar 1) (.var 13) 6) (.cons (.get (.lvar 1) (.var 13) 7) (.cons (.get (.lvar 1) (.var 13) 8) .nil))))))))) 14
(.br (.eq (.bin .and .i64 (.bin .shr .i64 (.bin .or .i64 (.get (.lvar 4) (.var 13) 0) (.get (.lvar 5) (.var 13) 0)) (.var 7)) (.lit 1)) (.lit 1))
(.br (.bvar 12)
(.br (.lt (.var 13) (.var 9))
(.leaf (.consb (.tt false) .nil))
(.br (.lt (.var 10) (.var 13))
(.leaf (.consb (.tt false) .nil))
(.br (.eq (.var 13) (.var 9))
(.br (.eq (.var 7) (.lit 1))
(.br (.lt (.lit 0) (.var 13))
(.next 1 (.cons (.bin .add .i64 (.var 13) (.lit 1)) .nil))
(.br (.eq (.var 13) (.var 10))
(.next 1 (.cons (.bin .add .i64 (.var 13) (.lit 1)) .nil))
(.next 1 (.cons (.bin .add .i64 (.var 13) (.lit 1)) .nil))))
(.br (.eq (.var 7) (.lit 10))
(.br (.lt (.lit 0) (.var 13))
(.next 1 (.cons (.bin .add .i64 (.var 13) (.lit 1)) .nil))
(.br (.eq (.var 13) (.var 10))
(.next 1 (.cons (.bin .add .i64 (.var 13) (.lit 1)) .nil))
(.next 1 (.cons (.bin .add .i64 (.var 13) (.lit 1)) .nil))))
(.next 1 (.cons (.bin .add .i64 (.var 13) (.lit 1)) .nil))))
(.br (.eq (.var 13) (.var 10))
(.next 1 (.cons (.bin .add .i64 (.var 13) (.lit 1)) .nil))
(.next 1 (.cons (.bin .add .i64 (.var 13) (.lit 1)) .nil))))))
(.leaf (.consb (.tt false) .nil)))
(.br (.bvar 12)
(.br (.eq (.bin .and .i64 (.bin .shr .i64 (.var 14) (.var 7)) (.lit 1)) (.lit 1))
(.br (.lt (.var 13) (.var 9))
(.leaf (.consb (.tt false) .nil))
(.br (.lt (.var 10) (.var 13))
(.leaf (.consb (.tt false) .nil))
(.br (.eq (.var 13) (.var 9))
(.br (.eq (.var 7) (.lit 1))
(.br (.lt (.lit 0) (.var 13))
(.next 1 (.cons (.bin .add .i64 (.var 13) (.lit 1)) .nil))
(.br (.eq (.var 13) (.var 10))
(.next 1 (.cons (.bin .add .i64 (.var 13) (.lit 1)) .nil))
(.next 1 (.cons (.bin .add .i64 (.var 13) (.lit 1)) .nil))))
(.br (.eq (.var 7) (.lit 10))
(.br (.lt (.lit 0) (.var 13))
(.next 1 (.cons (.bin .add .i64 (.var 13) (.lit 1)) .nil))
(.br (.eq (.var 13) (.var 10))
(.next 1 (.cons (.bin .add .i64 (.var 13) (.lit 1)) .nil))
(.next 1 (.cons (.bin .add .i64 (.var 13) (.lit 1)) .nil))))
(.next 1 (.cons (.bin .add .i64 (.var 13) (.lit 1)) .nil))))
(.br (.eq (.var 13) (.var 10))
(.next 1 (.cons (.bin .add .i64 (.var 13) (.lit 1)) .nil))
(.next 1 (.cons (.bin .add .i64 (.var 13) (.lit 1)) .nil))))))
(.br (.eq (.var 13) (.var 9))
(.br (.eq (.var 7) (.lit 1))
(.br (.lt (.lit 0) (.var 13))
(.leaf (.consb (.tt false) .nil))
(.br (.eq (.var 13) (.var 10))
(.leaf (.consb (.tt false) .nil))
(.next 1 (.cons (.bin .add .i64 (.var 13) (.lit 1)) .nil))))
(.br (.eq (.var 7) (.lit 10))
(.br (.lt (.lit 0) (.var 13))
(.leaf (.consb (.tt false) .nil))
(.br (.eq (.var 13) (.var 10))
(.leaf (.consb (.tt false) .nil))
(.next 1 (.cons (.bin .add .i64 (.var 13) (.lit 1)) .nil))))
(.leaf (.consb (.tt false) .nil))))
(.br (.eq (.var 13) (.var 10))
(.leaf (.consb (.tt false) .nil))
(.next 1 (.cons (.bin .add .i64 (.var 13) (.lit 1)) .nil)))))
(.next 1 (.cons (.bin .add .i64 (.var 13) (.lit 1)) .nil)))))
.panic))
.panic))
(.next 0 (.cons (.bin .add .i64 (.var 7) (.lit 1)) .nil)))))
(.loop 1 8 [.int .i64] (.cons (.lit 0) .nil)
(.br (.lt (.var 8) (.len (.lvar 2)))
(.br (.lt (.lit 0) (.var 8))
(.br (.lt (.var 8) (.lit 0))
.panic
(.br (.lt (.bin .sub .i64 (.var 8) (.lit 1)) (.lit 0))
.panic
(.br (.lt (.bin .sub .i64 (.var 8) (.lit 1)) (.len (.lvar 2)))
(.br (.lt (.get (.lvar 2) (.bin .sub .i64 (.var 8) (.lit 1)) 0) (.get (.lvar 2) (.var 8) 0))
(.br (.lt (.get (.lvar 2) (.var 8) 1) (.lit 0))
(.leaf (.consb (.tt false) .nil))
(.br (.lt (.get (.lvar 2) (.var 8) 2) (.get (.lvar 2) (.var 8) 1))
(.leaf (.consb (.tt false) .nil))
(.br (.lt (.get (.lvar 2) (.var 8) 2) (.len (.lvar 1)))
(.br (.lt (.get (.lvar 2) (.var 8) 0) (.lit 0))
(.leaf (.consb (.tt false) .nil))
(.br (.lt (.get (.lvar 2) (.var 8) 0) (.lit 11))
(.loop 2 9 [.int .i64] (.cons (.lit 0) .nil)
(.br (.lt (.var 9) (.var 8))
(.br (.lt (.var 9) (.lit 0))
.panic
(.br (.lt (.var 9) (.len (.lvar 2)))
(.call 5 ([.bool]) (.cons (.get (.lvar 2) (.var 8) 0) (.cons (.get (.lvar 2) (.var 8) 1) (.cons (.get (.lvar 2) (.var 8) 2) (.consb (.getb (.lvar 2) (.var 8) 3) (.cons (.get (.lvar 2) (.var 9) 0) (.cons (.get (.lvar 2) (.var 9) 1) (.cons (.get (.lvar 2) (.var 9) 2) (.consb (.getb (.lvar 2) (.var 9) 3) .nil)))))))) 10
(.loop 3 11 [.int .i64] (.cons (.lit 0) .nil)
(.br (.lt (.var 11) (.len (.lvar 4)))
(.br (.lt (.var 11) (.lit 0))
.panic
(.br (.lt (.var 11) (.len (.lvar 1)))
(.call 4 ([.int .i64]) (.cons (.get (.lvar 1) (.var 11) 0) (.cons (.get (.lvar 1) (.var 11) 1) (.cons (.get (.lvar 1) (.var 11) 2) (.cons (.get (.lvar 1) (.var 11) 3) (.consb (.getb (.lvar 1) (.var 11) 4) (.cons (.get (.lvar 1) (.var 11) 5) (.cons (.get (.lvar 1) (.var 11) 6) (.cons (.get (.lvar 1) (.var 11) 7) (.cons (.get (.lvar 1) (.var 11) 8) .nil))))))))) 12
(.br (.lt (.var 11) (.len (.lvar 5)))
(.br (.lt (.get (.lvar 2) (.var 9) 0) (.lit 0))
.panic
(.br (.bvar 10)
(.next 3 (.cons (.bin .add .i64 (.var 11) (.lit 1)) .nil))
(.br (.eq (.bin .and .i64 (.bin .shr .i64 (.bin .or .i64 (.bin .or .i64 (.get (.lvar 4) (.var 11) 0) (.get (.lvar 5) (.var 11) 0)) (.var 12)) (.get (.lvar 2) (.var 8) 0)) (.lit 1)) (.lit 1))
(.br (.eq (.bin .and .i64 (.bin .shr .i64 (.bin .or .i64 (.bin .or .i64 (.get (.lvar 4) (.var 11) 0) (.get (.lvar 5) (.var 11) 0)) (.var 12)) (.get (.lvar 2) (.var 9) 0)) (.lit 1)) (.lit 1))
(.leaf (.consb (.tt false) .nil))
(.next 3 (.cons (.bin .add .i64 (.var 11) (.lit 1)) .nil)))
(.next 3 (.cons (.bin .add .i64 (.var 11) (.lit 1)) .nil)))))
.panic))
.panic))
(.next 2 (.cons (.bin .add .i64 (.var 9) (.lit 1)) .nil)))))
.panic))
(.next 1 (.cons (.bin .add .i64 (.var 8) (.lit 1)) .nil))))
(.leaf (.consb (.tt false) .nil))))
(.leaf (.consb (.tt false) .nil)))))
(.leaf (.consb (.tt false) .nil)))
.panic)))
(.br (.lt (.var 8) (.lit 0))
.panic
(.br (.lt (.get (.lvar 2) (.var 8) 1) (.lit 0))
(.leaf (.consb (.tt false) .nil))
(.br (.lt (.get (.lvar 2) (.var 8) 2) (.get (.lvar 2) (.var 8) 1))
(.leaf (.consb (.tt false) .nil))
(.br (.lt (.get (.lvar 2) (.var 8) 2) (.len (.lvar 1)))
(.br (.lt (.get (.lvar 2) (.var 8) 0) (.lit 0))
(.leaf (.consb (.tt false) .nil))
(.br (.lt (.get (.lvar 2) (.var 8) 0) (.lit 11))
(.loop 2 9 [.int .i64] (.cons (.lit 0) .nil)
(.br (.lt (.var 9) (.var 8))
(.br (.lt (.var 9) (.lit 0))
.panic
(.br (.lt (.var 9) (.len (.lvar 2)))
(.call 5 ([.bool]) (.cons (.get (.lvar 2) (.var 8) 0) (.cons (.get (.lvar 2) (.var 8) 1) (.cons (.get (.lvar 2) (.var 8) 2) (.consb (.getb (.lvar 2) (.var 8) 3) (.cons (.get (.lvar 2) (.var 9) 0) (.cons (.get (.lvar 2) (.var 9) 1) (.cons (.get (.lvar 2) (.var 9) 2) (.consb (.getb (.lvar 2) (.var 9) 3) .nil)))))))) 10
(.loop 3 11 [.int .i64] (.cons (.lit 0) .nil)
(.br (.lt (.var 11) (.len (.lvar 4)))
(.br (.lt (.var 11) (.lit 0))
.panic
(.br (.lt (.var 11) (.len (.lvar 1)))
(.call 4 ([.int .i64]) (.cons (.get (.lvar 1) (.var 11) 0) (.cons (.get (.lvar 1) (.var 11) 1) (.cons (.get (.lvar 1) (.var 11) 2) (.cons (.get (.lvar 1) (.var 11) 3) (.consb (.getb (.lvar 1) (.var 11) 4) (.cons (.get (.lvar 1) (.var 11) 5) (.cons (.get (.lvar 1) (.var 11) 6) (.cons (.get (.lvar 1) (.var 11) 7) (.cons (.get (.lvar 1) (.var 11) 8) .nil))))))))) 12
(.br (.lt (.var 11) (.len (.lvar 5)))
(.br (.lt (.get (.lvar 2) (.var 9) 0) (.lit 0))
.panic
(.br (.bvar 10)
(.next 3 (.cons (.bin .add .i64 (.var 11) (.lit 1)) .nil))
(.br (.eq (.bin .and .i64 (.bin .shr .i64 (.bin .or .i64 (.bin .or .i64 (.get (.lvar 4) (.var 11) 0) (.get (.lvar 5) (.var 11) 0)) (.var 12)) (.get (.lvar 2) (.var 8) 0)) (.lit 1)) (.lit 1))
(.br (.eq (.bin .and .i64 (.bin .shr .i64 (.bin .or .i64 (.bin .or .i64 (.get (.lvar 4) (.var 11) 0) (.get (.lvar 5) (.var 11) 0)) (.var 12)) (.get (.lvar 2) (.var 9) 0)) (.lit 1)) (.lit 1))
(.leaf (.consb (.tt false) .nil))
(.next 3 (.cons (.bin .add .i64 (.var 11) (.lit 1)) .nil)))
(.next 3 (.cons (.bin .add .i64 (.var 11) (.lit 1)) .nil)))))
.panic))
.panic))
(.next 2 (.cons (.bin .add .i64 (.var 9) (.lit 1)) .nil)))))
.panic))
(.next 1 (.cons (.bin .add .i64 (.var 8) (.lit 1)) .nil))))
(.leaf (.consb (.tt false) .nil))))
(.leaf (.consb (.tt false) .nil)))))))
(.call 2 ([.bool]) .nil 9
(.leaf (.consb (.bvar 9) .nil)))))))
(.br (.eq (.len (.lvar 2)) (.lit 0))
(.call 2 ([.bool]) .nil 7
(.leaf (.consb (.bvar 7) .nil)))
(.leaf (.consb (.tt false) .nil))))
(.leaf (.consb (.tt false) .nil))))))
def sP_slive : Spec := ⟨fun k => match k with | 0 => sF_srun | 1 => sF_jrun | 2 => sF_swakes | 3 => sF_sof | 4 => sF_jwr | 5 => sF_smeet | _ => fun _ => [], fun k => match k with | 0 => sQ_srun | 1 => sQ_jrun | 3 => sQ_sof | _ => fun _ => True⟩
set_option maxRecDepth 100000 in
theorem sR_slive : treeIs tys_SpF [sM_srun 0, sM_jrun 1, sM_swakes 2, sM_sof 3, sM_jwr 4, sM_smeet 5] [] [(10, [.tmpI 8 .i64, .top 48, .top 49, .top 53, .top 54, .top 55, .top 52, .top 56, .top 57, .top 9, .top 10, .top 11, .top 58, .top 59, .top 60, .top 61, .top 64, .top 65, .top 66, .top 67, .top 68, .top 69, .top 70, .top 71, .top 72, .top 73, .top 74, .top 75, .top 76, .top 12, .top 77, .top 78, .top 79, .top 80, .top 81, .top 82, .top 83, .top 84, .top 85, .top 86, .top 13, .top 87, .top 88, .top 89, .top 90, .top 91, .top 92, .top 93, .top 94, .top 95, .top 96, .top 97, .top 98, .top 99, .top 100, .top 101, .top 102, .top 103, .top 104, .top 105, .top 106, .top 107, .top 108, .top 109, .top 110, .top 111, .top 112, .top 113, .top 114, .top 115, .top 116, .top 117, .top 118, .top 119, .top 120, .top 121, .top 122, .top 123, .top 124, .top 125, .top 126, .top 127, .top 128, .top 129, .top 130, .top 131, .top 132, .top 133, .top 134, .top 135, .top 136, .top 137, .top 138, .top 139, .top 140, .top 141, .top 142, .top 143, .top 144, .top 145, .top 146, .top 147, .top 2, .top 62, .top 63, .top 50, .top 51]), (14, [.tmpI 11 .i64, .top 58, .top 59, .top 60, .top 61, .top 64, .top 65, .top 66, .top 67, .top 68, .top 69, .top 70, .top 71, .top 72, .top 73, .top 74, .top 75, .top 76, .top 12, .top 77, .top 78, .top 79, .top 80, .top 81, .top 82, .top 83, .top 84, .top 85, .top 86, .top 13, .top 87, .top 88, .top 89, .top 90, .top 91, .top 92, .top 93, .top 94, .top 95, .top 96, .top 97, .top 98, .top 99, .top 100, .top 101, .top 102, .top 103, .top 104, .top 105, .top 106, .top 107, .top 108, .top 109, .top 110, .top 111, .top 112, .top 113, .top 114, .top 115, .top 116, .top 117, .top 118, .top 119, .top 120, .top 121, .top 122, .top 123, .top 124, .top 125, .top 126, .top 127, .top 128, .top 129, .top 130, .top 131, .top 132, .top 133, .top 134, .top 135, .top 136, .top 137, .top 138, .top 139, .top 140, .top 141, .top 142, .top 143, .top 144, .top 145, .top 146, .top 147, .top 2, .top 62, .top 63]), (21, [.tmpI 14 .i64, .top 148, .top 149, .top 150, .top 151, .top 154, .top 155, .top 156, .top 157, .top 158, .top 159, .top 160, .top 161, .top 162, .top 163, .top 164, .top 165, .top 166, .top 167, .top 168, .top 169, .top 170, .top 171, .top 172, .top 173, .top 174, .top 175, .top 176, .top 177, .top 178, .top 179, .top 180, .top 181, .top 182, .top 183, .top 184, .top 185, .top 186, .top 187, .top 188, .top 189, .top 190, .top 191, .top 192, .top 193, .top 194, .top 195, .top 196, .top 197, .top 198, .top 199, .top 200, .top 201, .top 202, .top 203, .top 204, .top 205, .top 206, .top 207, .top 208, .top 209, .top 210, .top 211, .top 212, .top 213, .top 214, .top 215, .top 216, .top 217, .top 2, .top 15, .top 218, .top 219, .top 220, .top 223, .top 224, .top 225, .top 226, .top 227, .top 228, .top 229, .top 230, .top 231, .top 232, .top 16, .top 17, .top 233, .top 234, .top 235, .top 236, .top 239, .top 240, .top 241, .top 242, .top 243, .top 244, .top 18, .top 245, .top 246, .top 247, .top 248, .top 249, .top 250, .top 251, .top 252, .top 253, .top 254, .top 255, .top 256, .top 257, .top 258, .top 259, .top 260, .top 261, .top 262, .top 263, .top 19, .top 264, .top 265, .top 266, .top 267, .top 268, .top 269, .top 270, .top 271, .top 272, .top 273, .top 274, .top 275, .top 276, .top 277, .top 278, .top 279, .top 280, .top 281, .top 282, .top 20, .top 283, .top 284, .top 285, .top 286, .top 287, .top 288, .top 289, .top 237, .top 238, .top 221, .top 222, .top 152, .top 153]), (26, [.tmpI 15 .i64, .top 218, .top 219, .top 220, .top 223, .top 224, .top 225, .top 226, .top 227, .top 228, .top 229, .top 230, .top 231, .top 232, .top 16, .top 17, .top 233, .top 234, .top 235, .top 236, .top 239, .top 240, .top 241, .top 242, .top 243, .top 244, .top 18, .top 245, .top 246, .top 247, .top 248, .top 249, .top 250, .top 251, .top 252, .top 253, .top 254, .top 255, .top 256, .top 257, .top 258, .top 259, .top 260, .top 261, .top 262, .top 263, .top 19, .top 264, .top 265, .top 266, .top 267, .top 268, .top 269, .top 270, .top 271, .top 272, .top 273, .top 274, .top 275, .top 276, .top 277, .top 278, .top 279, .top 280, .top 281, .top 282, .top 20, .top 283, .top 284, .top 285, .top 286, .top 287, .top 288, .top 289, .top 2, .top 237, .top 238, .top 221, .top 222]), (30, [.tmpI 17 .i64, .top 233, .top 234, .top 235, .top 236, .top 239, .top 240, .top 241, .top 242, .top 243, .top 244, .top 18, .top 245, .top 246, .top 247, .top 248, .top 249, .top 250, .top 251, .top 252, .top 253, .top 254, .top 255, .top 256, .top 257, .top 258, .top 259, .top 260, .top 261, .top 262, .top 263, .top 19, .top 264, .top 265, .top 266, .top 267, .top 268, .top 269, .top 270, .top 271, .top 272, .top 273, .top 274, .top 275, .top 276, .top 277, .top 278, .top 279, .top 280, .top 281, .top 282, .top 20, .top 283, .top 284, .top 285, .top 286, .top 287, .top 288, .top 289, .top 2, .top 237, .top 238])] [] 200 Try.f7 [.agg kProg] [.one .bool] false [.int .i64, .list [some .i8, some .i8, some .i8, some .i8, none, some .i8, some .i8, some .i64, some .i64]] sT_slive := ⟨by kernel_rfl, by kernel_rfl, by kernel_rfl⟩
set_option maxRecDepth 100000 in
set_option maxHeartbeats 8000000 in
theorem sX_slive (pr : Prog) (hpr : Prog.ok pr) (ρ : Env) (g : varsD ρ 0 [.int .i64, .list [some .i8, some .i8, some .i8, some .i8, none, some .i8, some .i8, some .i64, some .i64]] = [.z pr.ctx, .l pr.l]) : sT_slive.asks sP_slive (fun ρ e => e.D ρ = sF_slive [.z pr.ctx, .l pr.l]) ρ fun _ _ => False := by
  have keepg := g
  simp only [varsD, varD, List.cons.injEq, Dt.z.injEq, Dt.l.injEq, b2i_eq_iff, Nat.reduceAdd, and_true] at g
  simp only [sT_slive, sP_slive, kSpan, sF_srun, sF_jrun, sF_swakes, sF_sof, sF_jwr, sF_smeet, sV_srun, sV_jrun, sV_sof, sV_jwr, sV_smeet, sF_slive, sV_slive, sQ_srun, sQ_jrun, sQ_sof, Tr.asks, upd_same, okDs, okD, eqs, E.I, E.B, E.L, E.R, E.D, E.vs, dI, dB, dL, varD, varsD, List.getElem?_cons_zero, List.getElem?_cons_succ, List.cons_append, List.nil_append, Nat.zero_add, Nat.add_zero, Nat.reduceAdd, and_true, true_and, b2i_one, -eq_self, Ins.eta, Prog.eta, insAt_mk, Span.eta, spanAt_mk, g]
  obtain ⟨k0_i0, k0_l1⟩ := g
  refine ⟨fun c0 => ?_, fun c0 => ?_⟩
  intro e; (try simp only [e, Ins.eta, Prog.eta, insAt_mk, Span.eta, spanAt_mk, -eq_self]); clear e
  · rfl
  refine ⟨?_, ?_⟩
  · exact hpr.2.len
  intro e; have k0_l2 := e.1; have k0_i3 := e.2; (try simp only [e, Ins.eta, Prog.eta, insAt_mk, Span.eta, spanAt_mk, -eq_self]); clear e
  refine ⟨?_, ?_⟩
  · exact hpr.2.len
  intro e; have k0_l4 := e.1; have k0_l5 := e.2.1; have k0_i6 := e.2.2; (try simp only [e, Ins.eta, Prog.eta, insAt_mk, Span.eta, spanAt_mk, -eq_self]); clear e
  refine ⟨fun c1 => ?_, fun c1 => ?_⟩
  refine ⟨fun c2 => ?_, fun c2 => ?_⟩
  have hp : pr.l.length ≤ maxLen := hpr.2.len
  have hok : (icheck pr).2 = 0 := (srun_ee pr).symm.trans (eqI c2)
  have hF := lrun_fix hp hok
  obtain ⟨_, hn1, hn64⟩ := (icheck_ok hp hok).1
  rw [lrun_l hok] at k0_l4 k0_l5
  rw [srun_y hok] at k0_l2
  try rw [srun_y hok]
  refine ⟨fun ds => ∃ r : Nat, ds = [.z (r : Int)] ∧ r ≤ 11, fun ds => 11 - (dI ds 0).toNat, ⟨0, rfl, Nat.zero_le _⟩, ?_⟩
  intro ρ1 ha1 _ hi1
  obtain ⟨r, k1_i7, hr⟩ := hi1
  simp only [List.cons.injEq, Dt.z.injEq, and_true] at k1_i7
  have k1_i0 : ρ1.i 0 = _ := (ha1 0 (by decide)).1.symm.trans k0_i0
  have k1_l1 : ρ1.l 1 = _ := (ha1 1 (by decide)).2.2.symm.trans k0_l1
  have k1_l2 : ρ1.l 2 = _ := (ha1 2 (by decide)).2.2.symm.trans k0_l2
  have k1_i3 : ρ1.i 3 = _ := (ha1 3 (by decide)).1.symm.trans k0_i3
  have k1_l4 : ρ1.l 4 = _ := (ha1 4 (by decide)).2.2.symm.trans k0_l4
  have k1_l5 : ρ1.l 5 = _ := (ha1 5 (by decide)).2.2.symm.trans k0_l5
  have k1_i6 : ρ1.i 6 = _ := (ha1 6 (by decide)).1.symm.trans k0_i6
  simp only [k1_i0, k1_l1, k1_l2, k1_l4, k1_l5, k1_i7, insAt_mk, -eq_self]
  refine ⟨fun c3 => ?_, fun c3 => ?_⟩
  refine ⟨?_, ?_⟩
  · exact Nat.le_trans (lspans_len pr 11) (by decide)
  intro e; have k1_i9 := e.2.1; have k1_i10 := e.2.2.1; have k1_b12 := e.2.2.2.2; (try simp only [e, Ins.eta, Prog.eta, insAt_mk, Span.eta, spanAt_mk, -eq_self]); clear e
  have hr2 : r < 11 := Int.ofNat_lt.1 (of_decide_eq_true c3)
  refine ⟨fun ds => ∃ i : Nat, ds = [.z (i : Int)] ∧ i ≤ pr.l.length, fun ds => pr.l.length - (dI ds 0).toNat, ⟨0, rfl, Nat.zero_le _⟩, ?_⟩
  intro ρ2 ha2 _ hi2
  obtain ⟨i, k2_i13, hi⟩ := hi2
  simp only [List.cons.injEq, Dt.z.injEq, and_true] at k2_i13
  have k2_i0 : ρ2.i 0 = _ := (ha2 0 (by decide)).1.symm.trans k1_i0
  have k2_l1 : ρ2.l 1 = _ := (ha2 1 (by decide)).2.2.symm.trans k1_l1
  have k2_l2 : ρ2.l 2 = _ := (ha2 2 (by decide)).2.2.symm.trans k1_l2
  have k2_l4 : ρ2.l 4 = _ := (ha2 4 (by decide)).2.2.symm.trans k1_l4
  have k2_l5 : ρ2.l 5 = _ := (ha2 5 (by decide)).2.2.symm.trans k1_l5
  have k2_i7 : ρ2.i 7 = _ := (ha2 7 (by decide)).1.symm.trans k1_i7
  have k2_i9 : ρ2.i 9 = _ := (ha2 9 (by decide)).1.symm.trans k1_i9
  have k2_i10 : ρ2.i 10 = _ := (ha2 10 (by decide)).1.symm.trans k1_i10
  have k2_b12 : ρ2.b 12 = _ := (ha2 12 (by decide)).2.1.symm.trans k1_b12
  simp only [k2_i0, k2_l1, k2_l2, k2_l4, k2_l5, k2_i7, k2_i9, k2_i10, k2_b12, k2_i13, insAt_mk, -eq_self]
  refine ⟨fun c4 => ?_, fun c4 => ?_⟩
  refine ⟨fun c5 => ?_, fun c5 => ?_⟩
  · exact absurd (of_decide_eq_true c5) (by omega)
  refine ⟨fun c6 => ?_, fun c6 => ?_⟩
  refine ⟨fun c7 => ?_, fun c7 => ?_⟩
  · exact absurd (of_decide_eq_true c7) (by omega)
  refine ⟨fun c8 => ?_, fun c8 => ?_⟩
  intro e; (try simp only [e, Ins.eta, Prog.eta, insAt_mk, Span.eta, spanAt_mk, -eq_self]); clear e
  refine ⟨fun c9 => ?_, fun c9 => ?_⟩
  refine ⟨fun c10 => ?_, fun c10 => ?_⟩
  refine ⟨fun c11 => ?_, fun c11 => ?_⟩
  · have hi2 : i < pr.l.length := by have q := Int.ofNat_lt.1 (of_decide_eq_true c4); rwa [rows_len, hF.li] at q
    have q := p1_of pr hr2 hi2
    rw [lvT hF hi2 hr2, b2i_1] at c9
    have ho := on_lv c9
    exact absurd (of_decide_eq_true c11) (by have := q.lo c10 ho; omega)
  refine ⟨fun c12 => ?_, fun c12 => ?_⟩
  · have hi2 : i < pr.l.length := by have q := Int.ofNat_lt.1 (of_decide_eq_true c4); rwa [rows_len, hF.li] at q
    have q := p1_of pr hr2 hi2
    rw [lvT hF hi2 hr2, b2i_1] at c9
    have ho := on_lv c9
    exact absurd (of_decide_eq_true c12) (by have := q.hi c10 ho; omega)
  refine ⟨fun c13 => ?_, fun c13 => ?_⟩
  refine ⟨fun c14 => ?_, fun c14 => ?_⟩
  refine ⟨fun c15 => ?_, fun c15 => ?_⟩
  · have hi2 : i < pr.l.length := by have q := Int.ofNat_lt.1 (of_decide_eq_true c4); rwa [rows_len, hF.li] at q
    rw [addN hi2 hp]
    exact ⟨⟨i + 1, rfl, hi2⟩, by show pr.l.length - (((i + 1 : Nat) : Int)).toNat < pr.l.length - ((i : Int)).toNat; omega⟩
  refine ⟨fun c16 => ?_, fun c16 => ?_⟩
  · have hi2 : i < pr.l.length := by have q := Int.ofNat_lt.1 (of_decide_eq_true c4); rwa [rows_len, hF.li] at q
    rw [addN hi2 hp]
    exact ⟨⟨i + 1, rfl, hi2⟩, by show pr.l.length - (((i + 1 : Nat) : Int)).toNat < pr.l.length - ((i : Int)).toNat; omega⟩
  · have hi2 : i < pr.l.length := by have q := Int.ofNat_lt.1 (of_decide_eq_true c4); rwa [rows_len, hF.li] at q
    rw [addN hi2 hp]
    exact ⟨⟨i + 1, rfl, hi2⟩, by show pr.l.length - (((i + 1 : Nat) : Int)).toNat < pr.l.length - ((i : Int)).toNat; omega⟩
  refine ⟨fun c17 => ?_, fun c17 => ?_⟩
  refine ⟨fun c18 => ?_, fun c18 => ?_⟩
  · have hi2 : i < pr.l.length := by have q := Int.ofNat_lt.1 (of_decide_eq_true c4); rwa [rows_len, hF.li] at q
    rw [addN hi2 hp]
    exact ⟨⟨i + 1, rfl, hi2⟩, by show pr.l.length - (((i + 1 : Nat) : Int)).toNat < pr.l.length - ((i : Int)).toNat; omega⟩
  refine ⟨fun c19 => ?_, fun c19 => ?_⟩
  · have hi2 : i < pr.l.length := by have q := Int.ofNat_lt.1 (of_decide_eq_true c4); rwa [rows_len, hF.li] at q
    rw [addN hi2 hp]
    exact ⟨⟨i + 1, rfl, hi2⟩, by show pr.l.length - (((i + 1 : Nat) : Int)).toNat < pr.l.length - ((i : Int)).toNat; omega⟩
  · have hi2 : i < pr.l.length := by have q := Int.ofNat_lt.1 (of_decide_eq_true c4); rwa [rows_len, hF.li] at q
    rw [addN hi2 hp]
    exact ⟨⟨i + 1, rfl, hi2⟩, by show pr.l.length - (((i + 1 : Nat) : Int)).toNat < pr.l.length - ((i : Int)).toNat; omega⟩
  · have hi2 : i < pr.l.length := by have q := Int.ofNat_lt.1 (of_decide_eq_true c4); rwa [rows_len, hF.li] at q
    rw [addN hi2 hp]
    exact ⟨⟨i + 1, rfl, hi2⟩, by show pr.l.length - (((i + 1 : Nat) : Int)).toNat < pr.l.length - ((i : Int)).toNat; omega⟩
  refine ⟨fun c20 => ?_, fun c20 => ?_⟩
  · have hi2 : i < pr.l.length := by have q := Int.ofNat_lt.1 (of_decide_eq_true c4); rwa [rows_len, hF.li] at q
    rw [addN hi2 hp]
    exact ⟨⟨i + 1, rfl, hi2⟩, by show pr.l.length - (((i + 1 : Nat) : Int)).toNat < pr.l.length - ((i : Int)).toNat; omega⟩
  · have hi2 : i < pr.l.length := by have q := Int.ofNat_lt.1 (of_decide_eq_true c4); rwa [rows_len, hF.li] at q
    rw [addN hi2 hp]
    exact ⟨⟨i + 1, rfl, hi2⟩, by show pr.l.length - (((i + 1 : Nat) : Int)).toNat < pr.l.length - ((i : Int)).toNat; omega⟩
  · have hi2 : i < pr.l.length := by have q := Int.ofNat_lt.1 (of_decide_eq_true c4); rwa [rows_len, hF.li] at q
    have q := p1_of pr hr2 hi2
    rw [lvT hF hi2 hr2, b2i_1] at c9
    rw [q.lv c9] at c10
    exact Bool.noConfusion c10
  refine ⟨fun c21 => ?_, fun c21 => ?_⟩
  refine ⟨fun c22 => ?_, fun c22 => ?_⟩
  refine ⟨fun c23 => ?_, fun c23 => ?_⟩
  · have hi2 : i < pr.l.length := by have q := Int.ofNat_lt.1 (of_decide_eq_true c4); rwa [rows_len, hF.li] at q
    have q := p1_of pr hr2 hi2
    rw [lvT hF hi2 hr2, b2i_1] at c9
    rw [wrT pr i hr2, b2i_1] at c22
    have ho : onP pr r i = true := by rw [onP_eq, c9, c22]; rfl
    exact absurd (of_decide_eq_true c23) (by have := q.lo c21 ho; omega)
  refine ⟨fun c24 => ?_, fun c24 => ?_⟩
  · have hi2 : i < pr.l.length := by have q := Int.ofNat_lt.1 (of_decide_eq_true c4); rwa [rows_len, hF.li] at q
    have q := p1_of pr hr2 hi2
    rw [lvT hF hi2 hr2, b2i_1] at c9
    rw [wrT pr i hr2, b2i_1] at c22
    have ho : onP pr r i = true := by rw [onP_eq, c9, c22]; rfl
    exact absurd (of_decide_eq_true c24) (by have := q.hi c21 ho; omega)
  refine ⟨fun c25 => ?_, fun c25 => ?_⟩
  refine ⟨fun c26 => ?_, fun c26 => ?_⟩
  refine ⟨fun c27 => ?_, fun c27 => ?_⟩
  · have hi2 : i < pr.l.length := by have q := Int.ofNat_lt.1 (of_decide_eq_true c4); rwa [rows_len, hF.li] at q
    rw [addN hi2 hp]
    exact ⟨⟨i + 1, rfl, hi2⟩, by show pr.l.length - (((i + 1 : Nat) : Int)).toNat < pr.l.length - ((i : Int)).toNat; omega⟩
  refine ⟨fun c28 => ?_, fun c28 => ?_⟩
  · have hi2 : i < pr.l.length := by have q := Int.ofNat_lt.1 (of_decide_eq_true c4); rwa [rows_len, hF.li] at q
    rw [addN hi2 hp]
    exact ⟨⟨i + 1, rfl, hi2⟩, by show pr.l.length - (((i + 1 : Nat) : Int)).toNat < pr.l.length - ((i : Int)).toNat; omega⟩
  · have hi2 : i < pr.l.length := by have q := Int.ofNat_lt.1 (of_decide_eq_true c4); rwa [rows_len, hF.li] at q
    rw [addN hi2 hp]
    exact ⟨⟨i + 1, rfl, hi2⟩, by show pr.l.length - (((i + 1 : Nat) : Int)).toNat < pr.l.length - ((i : Int)).toNat; omega⟩
  refine ⟨fun c29 => ?_, fun c29 => ?_⟩
  refine ⟨fun c30 => ?_, fun c30 => ?_⟩
  · have hi2 : i < pr.l.length := by have q := Int.ofNat_lt.1 (of_decide_eq_true c4); rwa [rows_len, hF.li] at q
    rw [addN hi2 hp]
    exact ⟨⟨i + 1, rfl, hi2⟩, by show pr.l.length - (((i + 1 : Nat) : Int)).toNat < pr.l.length - ((i : Int)).toNat; omega⟩
  refine ⟨fun c31 => ?_, fun c31 => ?_⟩
  · have hi2 : i < pr.l.length := by have q := Int.ofNat_lt.1 (of_decide_eq_true c4); rwa [rows_len, hF.li] at q
    rw [addN hi2 hp]
    exact ⟨⟨i + 1, rfl, hi2⟩, by show pr.l.length - (((i + 1 : Nat) : Int)).toNat < pr.l.length - ((i : Int)).toNat; omega⟩
  · have hi2 : i < pr.l.length := by have q := Int.ofNat_lt.1 (of_decide_eq_true c4); rwa [rows_len, hF.li] at q
    rw [addN hi2 hp]
    exact ⟨⟨i + 1, rfl, hi2⟩, by show pr.l.length - (((i + 1 : Nat) : Int)).toNat < pr.l.length - ((i : Int)).toNat; omega⟩
  · have hi2 : i < pr.l.length := by have q := Int.ofNat_lt.1 (of_decide_eq_true c4); rwa [rows_len, hF.li] at q
    rw [addN hi2 hp]
    exact ⟨⟨i + 1, rfl, hi2⟩, by show pr.l.length - (((i + 1 : Nat) : Int)).toNat < pr.l.length - ((i : Int)).toNat; omega⟩
  refine ⟨fun c32 => ?_, fun c32 => ?_⟩
  · have hi2 : i < pr.l.length := by have q := Int.ofNat_lt.1 (of_decide_eq_true c4); rwa [rows_len, hF.li] at q
    rw [addN hi2 hp]
    exact ⟨⟨i + 1, rfl, hi2⟩, by show pr.l.length - (((i + 1 : Nat) : Int)).toNat < pr.l.length - ((i : Int)).toNat; omega⟩
  · have hi2 : i < pr.l.length := by have q := Int.ofNat_lt.1 (of_decide_eq_true c4); rwa [rows_len, hF.li] at q
    rw [addN hi2 hp]
    exact ⟨⟨i + 1, rfl, hi2⟩, by show pr.l.length - (((i + 1 : Nat) : Int)).toNat < pr.l.length - ((i : Int)).toNat; omega⟩
  refine ⟨fun c33 => ?_, fun c33 => ?_⟩
  refine ⟨fun c34 => ?_, fun c34 => ?_⟩
  refine ⟨fun c35 => ?_, fun c35 => ?_⟩
  · have hi2 : i < pr.l.length := by have q := Int.ofNat_lt.1 (of_decide_eq_true c4); rwa [rows_len, hF.li] at q
    have q := p1_of pr hr2 hi2
    rw [lvT hF hi2 hr2, b2i_1] at c9
    rw [wrT pr i hr2, b2i_1] at c22
    have ho : onP pr r i = false := by rw [onP_eq, c9, c22]; rfl
    exact absurd (eqI c33) (q.nf' c21 ho (by have := of_decide_eq_true c35; omega))
  refine ⟨fun c36 => ?_, fun c36 => ?_⟩
  · have hi2 : i < pr.l.length := by have q := Int.ofNat_lt.1 (of_decide_eq_true c4); rwa [rows_len, hF.li] at q
    have q := p1_of pr hr2 hi2
    rw [lvT hF hi2 hr2, b2i_1] at c9
    rw [wrT pr i hr2, b2i_1] at c22
    have ho : onP pr r i = false := by rw [onP_eq, c9, c22]; rfl
    exact absurd (eqI c36) (q.nt c21 ho)
  · have hi2 : i < pr.l.length := by have q := Int.ofNat_lt.1 (of_decide_eq_true c4); rwa [rows_len, hF.li] at q
    rw [addN hi2 hp]
    exact ⟨⟨i + 1, rfl, hi2⟩, by show pr.l.length - (((i + 1 : Nat) : Int)).toNat < pr.l.length - ((i : Int)).toNat; omega⟩
  refine ⟨fun c37 => ?_, fun c37 => ?_⟩
  refine ⟨fun c38 => ?_, fun c38 => ?_⟩
  · have hi2 : i < pr.l.length := by have q := Int.ofNat_lt.1 (of_decide_eq_true c4); rwa [rows_len, hF.li] at q
    have q := p1_of pr hr2 hi2
    rw [lvT hF hi2 hr2, b2i_1] at c9
    rw [wrT pr i hr2, b2i_1] at c22
    have ho : onP pr r i = false := by rw [onP_eq, c9, c22]; rfl
    exact absurd (eqI c33) (q.nf' c21 ho (by have := of_decide_eq_true c38; omega))
  refine ⟨fun c39 => ?_, fun c39 => ?_⟩
  · have hi2 : i < pr.l.length := by have q := Int.ofNat_lt.1 (of_decide_eq_true c4); rwa [rows_len, hF.li] at q
    have q := p1_of pr hr2 hi2
    rw [lvT hF hi2 hr2, b2i_1] at c9
    rw [wrT pr i hr2, b2i_1] at c22
    have ho : onP pr r i = false := by rw [onP_eq, c9, c22]; rfl
    exact absurd (eqI c39) (q.nt c21 ho)
  · have hi2 : i < pr.l.length := by have q := Int.ofNat_lt.1 (of_decide_eq_true c4); rwa [rows_len, hF.li] at q
    rw [addN hi2 hp]
    exact ⟨⟨i + 1, rfl, hi2⟩, by show pr.l.length - (((i + 1 : Nat) : Int)).toNat < pr.l.length - ((i : Int)).toNat; omega⟩
  · have hi2 : i < pr.l.length := by have q := Int.ofNat_lt.1 (of_decide_eq_true c4); rwa [rows_len, hF.li] at q
    have q := p1_of pr hr2 hi2
    rw [lvT hF hi2 hr2, b2i_1] at c9
    rw [wrT pr i hr2, b2i_1] at c22
    have ho : onP pr r i = false := by rw [onP_eq, c9, c22]; rfl
    exact absurd (eqI c33) (q.nf c21 ho (fun e => neI c34 (by rw [e]; rfl)) (fun e => neI c37 (by rw [e]; rfl)))
  refine ⟨fun c40 => ?_, fun c40 => ?_⟩
  · have hi2 : i < pr.l.length := by have q := Int.ofNat_lt.1 (of_decide_eq_true c4); rwa [rows_len, hF.li] at q
    have q := p1_of pr hr2 hi2
    rw [lvT hF hi2 hr2, b2i_1] at c9
    rw [wrT pr i hr2, b2i_1] at c22
    have ho : onP pr r i = false := by rw [onP_eq, c9, c22]; rfl
    exact absurd (eqI c40) (q.nt c21 ho)
  · have hi2 : i < pr.l.length := by have q := Int.ofNat_lt.1 (of_decide_eq_true c4); rwa [rows_len, hF.li] at q
    rw [addN hi2 hp]
    exact ⟨⟨i + 1, rfl, hi2⟩, by show pr.l.length - (((i + 1 : Nat) : Int)).toNat < pr.l.length - ((i : Int)).toNat; omega⟩
  · have hi2 : i < pr.l.length := by have q := Int.ofNat_lt.1 (of_decide_eq_true c4); rwa [rows_len, hF.li] at q
    rw [addN hi2 hp]
    exact ⟨⟨i + 1, rfl, hi2⟩, by show pr.l.length - (((i + 1 : Nat) : Int)).toNat < pr.l.length - ((i : Int)).toNat; omega⟩
  · have hi2 : i < pr.l.length := by have q := Int.ofNat_lt.1 (of_decide_eq_true c4); rwa [rows_len, hF.li] at q
    have q := of_decide_eq_false c8
    (try rw [rows_len, hF.lo] at q)
    exact absurd hi2 (by omega)
  · have hi2 : i < pr.l.length := by have q := Int.ofNat_lt.1 (of_decide_eq_true c4); rwa [rows_len, hF.li] at q
    have q := of_decide_eq_false c6
    (try rw [rows_len, hF.lo] at q)
    exact absurd hi2 (by omega)
  · exact ⟨⟨r + 1, (by rw [addN hr2 (by decide)]), hr2⟩, by rw [addN hr2 (by decide)]; show 11 - (((r + 1 : Nat) : Int)).toNat < 11 - ((r : Int)).toNat; omega⟩
  refine ⟨fun ds => ∃ i : Nat, ds = [.z (i : Int)] ∧ i ≤ (lspans pr 11).length, fun ds => (lspans pr 11).length - (dI ds 0).toNat, ⟨0, rfl, Nat.zero_le _⟩, ?_⟩
  intro ρ2 ha2 _ hi2
  obtain ⟨i, k2_i8, hi⟩ := hi2
  simp only [List.cons.injEq, Dt.z.injEq, and_true] at k2_i8
  have k2_i0 : ρ2.i 0 = _ := (ha2 0 (by decide)).1.symm.trans k1_i0
  have k2_l1 : ρ2.l 1 = _ := (ha2 1 (by decide)).2.2.symm.trans k1_l1
  have k2_l2 : ρ2.l 2 = _ := (ha2 2 (by decide)).2.2.symm.trans k1_l2
  have k2_l4 : ρ2.l 4 = _ := (ha2 4 (by decide)).2.2.symm.trans k1_l4
  have k2_l5 : ρ2.l 5 = _ := (ha2 5 (by decide)).2.2.symm.trans k1_l5
  have k2_i7 : ρ2.i 7 = _ := (ha2 7 (by decide)).1.symm.trans k1_i7
  simp only [k2_i0, k2_l1, k2_l2, k2_l4, k2_l5, k2_i7, k2_i8, insAt_mk, -eq_self]
  refine ⟨fun c41 => ?_, fun c41 => ?_⟩
  refine ⟨fun c42 => ?_, fun c42 => ?_⟩
  refine ⟨fun c43 => ?_, fun c43 => ?_⟩
  · exact absurd (of_decide_eq_true c43) (by omega)
  refine ⟨fun c44 => ?_, fun c44 => ?_⟩
  · have hi2 : i < (lspans pr 11).length := Int.ofNat_lt.1 (of_decide_eq_true c41)
    obtain ⟨s, hs1, hs2, hs3⟩ := lspans_at hi2
    obtain ⟨g0, g1, g2, g3⟩ := gt_spn hs3
    have hw := span_whole hs2
    have hf := frI_0 hs2
    have hi0 : 0 < i := by have := of_decide_eq_true c42; omega
    have e1 : opI .sub .i64 (i : Int) 1 = ((i - 1 : Nat) : Int) := subNN hi0 (Nat.le_trans (Nat.le_of_lt hi2) (Nat.le_trans (lspans_len pr 11) (by decide)))
    rw [e1] at c44
    exact absurd (of_decide_eq_true c44) (by omega)
  refine ⟨fun c45 => ?_, fun c45 => ?_⟩
  refine ⟨fun c46 => ?_, fun c46 => ?_⟩
  refine ⟨fun c47 => ?_, fun c47 => ?_⟩
  · have hi2 : i < (lspans pr 11).length := Int.ofNat_lt.1 (of_decide_eq_true c41)
    obtain ⟨s, hs1, hs2, hs3⟩ := lspans_at hi2
    obtain ⟨g0, g1, g2, g3⟩ := gt_spn hs3
    have hw := span_whole hs2
    have hf := frI_0 hs2
    rw [g1] at c47
    exact absurd (of_decide_eq_true c47) (by omega)
  refine ⟨fun c48 => ?_, fun c48 => ?_⟩
  · have hi2 : i < (lspans pr 11).length := Int.ofNat_lt.1 (of_decide_eq_true c41)
    obtain ⟨s, hs1, hs2, hs3⟩ := lspans_at hi2
    obtain ⟨g0, g1, g2, g3⟩ := gt_spn hs3
    have hw := span_whole hs2
    have hf := frI_0 hs2
    rw [g1, g2] at c48
    exact absurd (of_decide_eq_true c48) (by omega)
  refine ⟨fun c49 => ?_, fun c49 => ?_⟩
  refine ⟨fun c50 => ?_, fun c50 => ?_⟩
  · have hi2 : i < (lspans pr 11).length := Int.ofNat_lt.1 (of_decide_eq_true c41)
    obtain ⟨s, hs1, hs2, hs3⟩ := lspans_at hi2
    obtain ⟨g0, g1, g2, g3⟩ := gt_spn hs3
    have hw := span_whole hs2
    have hf := frI_0 hs2
    rw [g0] at c50
    exact absurd (of_decide_eq_true c50) (by omega)
  refine ⟨fun c51 => ?_, fun c51 => ?_⟩
  have hi2 : i < (lspans pr 11).length := Int.ofNat_lt.1 (of_decide_eq_true c41)
  obtain ⟨s, hs1, hs2, hs3⟩ := lspans_at hi2
  obtain ⟨g0, g1, g2, g3⟩ := gt_spn hs3
  have hw := span_whole hs2
  have hf := frI_0 hs2
  refine ⟨fun ds => ∃ k : Nat, ds = [.z (k : Int)] ∧ k ≤ i, fun ds => i - (dI ds 0).toNat, ⟨0, rfl, Nat.zero_le _⟩, ?_⟩
  intro ρ3 ha3 _ hi3
  obtain ⟨k, k3_i9, hk⟩ := hi3
  simp only [List.cons.injEq, Dt.z.injEq, and_true] at k3_i9
  have k3_i0 : ρ3.i 0 = _ := (ha3 0 (by decide)).1.symm.trans k2_i0
  have k3_l1 : ρ3.l 1 = _ := (ha3 1 (by decide)).2.2.symm.trans k2_l1
  have k3_l2 : ρ3.l 2 = _ := (ha3 2 (by decide)).2.2.symm.trans k2_l2
  have k3_l4 : ρ3.l 4 = _ := (ha3 4 (by decide)).2.2.symm.trans k2_l4
  have k3_l5 : ρ3.l 5 = _ := (ha3 5 (by decide)).2.2.symm.trans k2_l5
  have k3_i7 : ρ3.i 7 = _ := (ha3 7 (by decide)).1.symm.trans k2_i7
  have k3_i8 : ρ3.i 8 = _ := (ha3 8 (by decide)).1.symm.trans k2_i8
  simp only [k3_i0, k3_l1, k3_l2, k3_l4, k3_l5, k3_i7, k3_i8, k3_i9, spanAt_mk, spanAt_spn hs3, g0, -eq_self]
  refine ⟨fun c52 => ?_, fun c52 => ?_⟩
  refine ⟨fun c53 => ?_, fun c53 => ?_⟩
  · exact absurd (of_decide_eq_true c53) (by omega)
  refine ⟨fun c54 => ?_, fun c54 => ?_⟩
  intro e; have k3_b10 := e; (try simp only [e, Ins.eta, Prog.eta, insAt_mk, Span.eta, spanAt_mk, -eq_self]); clear e
  have hk2 : k < i := Int.ofNat_lt.1 (of_decide_eq_true c52)
  obtain ⟨t, ht1, ht2, ht3⟩ := lspans_at (Nat.lt_trans hk2 hi2)
  obtain ⟨f0, f1, f2, f3⟩ := gt_spn ht3
  rw [spanAt_spn ht3] at k3_b10
  refine ⟨fun ds => ∃ j : Nat, ds = [.z (j : Int)] ∧ j ≤ pr.l.length, fun ds => pr.l.length - (dI ds 0).toNat, ⟨0, rfl, Nat.zero_le _⟩, ?_⟩
  intro ρ4 ha4 _ hi4
  obtain ⟨j, k4_i11, hj⟩ := hi4
  simp only [List.cons.injEq, Dt.z.injEq, and_true] at k4_i11
  have k4_i0 : ρ4.i 0 = _ := (ha4 0 (by decide)).1.symm.trans k3_i0
  have k4_l1 : ρ4.l 1 = _ := (ha4 1 (by decide)).2.2.symm.trans k3_l1
  have k4_l2 : ρ4.l 2 = _ := (ha4 2 (by decide)).2.2.symm.trans k3_l2
  have k4_l4 : ρ4.l 4 = _ := (ha4 4 (by decide)).2.2.symm.trans k3_l4
  have k4_l5 : ρ4.l 5 = _ := (ha4 5 (by decide)).2.2.symm.trans k3_l5
  have k4_i7 : ρ4.i 7 = _ := (ha4 7 (by decide)).1.symm.trans k3_i7
  have k4_i8 : ρ4.i 8 = _ := (ha4 8 (by decide)).1.symm.trans k3_i8
  have k4_i9 : ρ4.i 9 = _ := (ha4 9 (by decide)).1.symm.trans k3_i9
  have k4_b10 : ρ4.b 10 = _ := (ha4 10 (by decide)).2.1.symm.trans k3_b10
  simp only [k4_i0, k4_l1, k4_l2, k4_l4, k4_l5, k4_i7, k4_i8, k4_i9, k4_b10, k4_i11, f0, -eq_self]
  refine ⟨fun c55 => ?_, fun c55 => ?_⟩
  refine ⟨fun c56 => ?_, fun c56 => ?_⟩
  · exact absurd (of_decide_eq_true c56) (by omega)
  refine ⟨fun c57 => ?_, fun c57 => ?_⟩
  intro e; (try simp only [e, Ins.eta, Prog.eta, insAt_mk, Span.eta, spanAt_mk, -eq_self]); clear e
  refine ⟨fun c58 => ?_, fun c58 => ?_⟩
  refine ⟨fun c59 => ?_, fun c59 => ?_⟩
  · exact absurd (of_decide_eq_true c59) (by omega)
  refine ⟨fun c60 => ?_, fun c60 => ?_⟩
  · have hj2 : j < pr.l.length := by have q := Int.ofNat_lt.1 (of_decide_eq_true c55); rwa [rows_len, hF.li] at q
    rw [addN hj2 hp]
    exact ⟨⟨j + 1, rfl, hj2⟩, by show pr.l.length - (((j + 1 : Nat) : Int)).toNat < pr.l.length - ((j : Int)).toNat; omega⟩
  refine ⟨fun c61 => ?_, fun c61 => ?_⟩
  refine ⟨fun c62 => ?_, fun c62 => ?_⟩
  · have hj2 : j < pr.l.length := by have q := Int.ofNat_lt.1 (of_decide_eq_true c55); rwa [rows_len, hF.li] at q
    (try rw [g0] at c61)
    (try rw [f0] at c62)
    rw [onT hF hj2 hs1, b2i_1] at c61
    rw [onT hF hj2 ht1, b2i_1] at c62
    rw [meet_on hj2 hs2 ht2 c61 c62] at c60
    exact Bool.noConfusion c60
  · have hj2 : j < pr.l.length := by have q := Int.ofNat_lt.1 (of_decide_eq_true c55); rwa [rows_len, hF.li] at q
    rw [addN hj2 hp]
    exact ⟨⟨j + 1, rfl, hj2⟩, by show pr.l.length - (((j + 1 : Nat) : Int)).toNat < pr.l.length - ((j : Int)).toNat; omega⟩
  · have hj2 : j < pr.l.length := by have q := Int.ofNat_lt.1 (of_decide_eq_true c55); rwa [rows_len, hF.li] at q
    rw [addN hj2 hp]
    exact ⟨⟨j + 1, rfl, hj2⟩, by show pr.l.length - (((j + 1 : Nat) : Int)).toNat < pr.l.length - ((j : Int)).toNat; omega⟩
  · have hj2 : j < pr.l.length := by have q := Int.ofNat_lt.1 (of_decide_eq_true c55); rwa [rows_len, hF.li] at q
    have q := of_decide_eq_false c58
    (try rw [rows_len, hF.lo] at q)
    exact absurd hj2 (by omega)
  · have hj2 : j < pr.l.length := by have q := Int.ofNat_lt.1 (of_decide_eq_true c55); rwa [rows_len, hF.li] at q
    have q := of_decide_eq_false c57
    (try rw [rows_len, hF.lo] at q)
    exact absurd hj2 (by omega)
  · rw [addN hk2 (Nat.le_trans (Nat.le_of_lt hi2) (Nat.le_trans (lspans_len pr 11) (by decide)))]
    exact ⟨⟨k + 1, rfl, hk2⟩, by show i - (((k + 1 : Nat) : Int)).toNat < i - ((k : Int)).toNat; omega⟩
  · exact absurd (of_decide_eq_false c54) (by have := of_decide_eq_true c52; omega)
  · rw [addN hi2 (Nat.le_trans (lspans_len pr 11) (by decide))]
    exact ⟨⟨i + 1, rfl, hi2⟩, by show (lspans pr 11).length - (((i + 1 : Nat) : Int)).toNat < (lspans pr 11).length - ((i : Int)).toNat; omega⟩
  · have hi2 : i < (lspans pr 11).length := Int.ofNat_lt.1 (of_decide_eq_true c41)
    obtain ⟨s, hs1, hs2, hs3⟩ := lspans_at hi2
    obtain ⟨g0, g1, g2, g3⟩ := gt_spn hs3
    have hw := span_whole hs2
    have hf := frI_0 hs2
    rw [g0] at c51
    exact absurd (of_decide_eq_false c51) (by omega)
  · have hi2 : i < (lspans pr 11).length := Int.ofNat_lt.1 (of_decide_eq_true c41)
    obtain ⟨s, hs1, hs2, hs3⟩ := lspans_at hi2
    obtain ⟨g0, g1, g2, g3⟩ := gt_spn hs3
    have hw := span_whole hs2
    have hf := frI_0 hs2
    rw [g2] at c49
    exact absurd (of_decide_eq_false c49) (by omega)
  · have hi2 : i < (lspans pr 11).length := Int.ofNat_lt.1 (of_decide_eq_true c41)
    obtain ⟨s, hs1, hs2, hs3⟩ := lspans_at hi2
    obtain ⟨g0, g1, g2, g3⟩ := gt_spn hs3
    have hw := span_whole hs2
    have hf := frI_0 hs2
    have hi0 : 0 < i := by have := of_decide_eq_true c42; omega
    have e1 : opI .sub .i64 (i : Int) 1 = ((i - 1 : Nat) : Int) := subNN hi0 (Nat.le_trans (Nat.le_of_lt hi2) (Nat.le_trans (lspans_len pr 11) (by decide)))
    obtain ⟨t, ht1, ht2, ht3⟩ := lspans_at (p := pr) (n := 11) (i := i - 1) (by omega)
    have hu := lspans_up (by omega : i - 1 < i) ht3 hs3
    rw [e1, g0, (gt_spn ht3).1] at c46
    exact absurd (of_decide_eq_false c46) (by omega)
  · have hi2 : i < (lspans pr 11).length := Int.ofNat_lt.1 (of_decide_eq_true c41)
    obtain ⟨s, hs1, hs2, hs3⟩ := lspans_at hi2
    obtain ⟨g0, g1, g2, g3⟩ := gt_spn hs3
    have hw := span_whole hs2
    have hf := frI_0 hs2
    have hi0 : 0 < i := by have := of_decide_eq_true c42; omega
    have e1 : opI .sub .i64 (i : Int) 1 = ((i - 1 : Nat) : Int) := subNN hi0 (Nat.le_trans (Nat.le_of_lt hi2) (Nat.le_trans (lspans_len pr 11) (by decide)))
    rw [e1] at c45
    exact absurd (of_decide_eq_false c45) (by omega)
  refine ⟨fun c63 => ?_, fun c63 => ?_⟩
  · exact absurd (of_decide_eq_true c63) (by omega)
  refine ⟨fun c64 => ?_, fun c64 => ?_⟩
  · have hi2 : i < (lspans pr 11).length := Int.ofNat_lt.1 (of_decide_eq_true c41)
    obtain ⟨s, hs1, hs2, hs3⟩ := lspans_at hi2
    obtain ⟨g0, g1, g2, g3⟩ := gt_spn hs3
    have hw := span_whole hs2
    have hf := frI_0 hs2
    rw [g1] at c64
    exact absurd (of_decide_eq_true c64) (by omega)
  refine ⟨fun c65 => ?_, fun c65 => ?_⟩
  · have hi2 : i < (lspans pr 11).length := Int.ofNat_lt.1 (of_decide_eq_true c41)
    obtain ⟨s, hs1, hs2, hs3⟩ := lspans_at hi2
    obtain ⟨g0, g1, g2, g3⟩ := gt_spn hs3
    have hw := span_whole hs2
    have hf := frI_0 hs2
    rw [g1, g2] at c65
    exact absurd (of_decide_eq_true c65) (by omega)
  refine ⟨fun c66 => ?_, fun c66 => ?_⟩
  refine ⟨fun c67 => ?_, fun c67 => ?_⟩
  · have hi2 : i < (lspans pr 11).length := Int.ofNat_lt.1 (of_decide_eq_true c41)
    obtain ⟨s, hs1, hs2, hs3⟩ := lspans_at hi2
    obtain ⟨g0, g1, g2, g3⟩ := gt_spn hs3
    have hw := span_whole hs2
    have hf := frI_0 hs2
    rw [g0] at c67
    exact absurd (of_decide_eq_true c67) (by omega)
  refine ⟨fun c68 => ?_, fun c68 => ?_⟩
  have hi2 : i < (lspans pr 11).length := Int.ofNat_lt.1 (of_decide_eq_true c41)
  obtain ⟨s, hs1, hs2, hs3⟩ := lspans_at hi2
  obtain ⟨g0, g1, g2, g3⟩ := gt_spn hs3
  have hw := span_whole hs2
  have hf := frI_0 hs2
  refine ⟨fun ds => ∃ k : Nat, ds = [.z (k : Int)] ∧ k ≤ i, fun ds => i - (dI ds 0).toNat, ⟨0, rfl, Nat.zero_le _⟩, ?_⟩
  intro ρ3 ha3 _ hi3
  obtain ⟨k, k3_i9, hk⟩ := hi3
  simp only [List.cons.injEq, Dt.z.injEq, and_true] at k3_i9
  have k3_i0 : ρ3.i 0 = _ := (ha3 0 (by decide)).1.symm.trans k2_i0
  have k3_l1 : ρ3.l 1 = _ := (ha3 1 (by decide)).2.2.symm.trans k2_l1
  have k3_l2 : ρ3.l 2 = _ := (ha3 2 (by decide)).2.2.symm.trans k2_l2
  have k3_l4 : ρ3.l 4 = _ := (ha3 4 (by decide)).2.2.symm.trans k2_l4
  have k3_l5 : ρ3.l 5 = _ := (ha3 5 (by decide)).2.2.symm.trans k2_l5
  have k3_i7 : ρ3.i 7 = _ := (ha3 7 (by decide)).1.symm.trans k2_i7
  have k3_i8 : ρ3.i 8 = _ := (ha3 8 (by decide)).1.symm.trans k2_i8
  simp only [k3_i0, k3_l1, k3_l2, k3_l4, k3_l5, k3_i7, k3_i8, k3_i9, spanAt_mk, spanAt_spn hs3, g0, -eq_self]
  refine ⟨fun c69 => ?_, fun c69 => ?_⟩
  refine ⟨fun c70 => ?_, fun c70 => ?_⟩
  · exact absurd (of_decide_eq_true c70) (by omega)
  refine ⟨fun c71 => ?_, fun c71 => ?_⟩
  intro e; have k3_b10 := e; (try simp only [e, Ins.eta, Prog.eta, insAt_mk, Span.eta, spanAt_mk, -eq_self]); clear e
  have hk2 : k < i := Int.ofNat_lt.1 (of_decide_eq_true c69)
  obtain ⟨t, ht1, ht2, ht3⟩ := lspans_at (Nat.lt_trans hk2 hi2)
  obtain ⟨f0, f1, f2, f3⟩ := gt_spn ht3
  rw [spanAt_spn ht3] at k3_b10
  refine ⟨fun ds => ∃ j : Nat, ds = [.z (j : Int)] ∧ j ≤ pr.l.length, fun ds => pr.l.length - (dI ds 0).toNat, ⟨0, rfl, Nat.zero_le _⟩, ?_⟩
  intro ρ4 ha4 _ hi4
  obtain ⟨j, k4_i11, hj⟩ := hi4
  simp only [List.cons.injEq, Dt.z.injEq, and_true] at k4_i11
  have k4_i0 : ρ4.i 0 = _ := (ha4 0 (by decide)).1.symm.trans k3_i0
  have k4_l1 : ρ4.l 1 = _ := (ha4 1 (by decide)).2.2.symm.trans k3_l1
  have k4_l2 : ρ4.l 2 = _ := (ha4 2 (by decide)).2.2.symm.trans k3_l2
  have k4_l4 : ρ4.l 4 = _ := (ha4 4 (by decide)).2.2.symm.trans k3_l4
  have k4_l5 : ρ4.l 5 = _ := (ha4 5 (by decide)).2.2.symm.trans k3_l5
  have k4_i7 : ρ4.i 7 = _ := (ha4 7 (by decide)).1.symm.trans k3_i7
  have k4_i8 : ρ4.i 8 = _ := (ha4 8 (by decide)).1.symm.trans k3_i8
  have k4_i9 : ρ4.i 9 = _ := (ha4 9 (by decide)).1.symm.trans k3_i9
  have k4_b10 : ρ4.b 10 = _ := (ha4 10 (by decide)).2.1.symm.trans k3_b10
  simp only [k4_i0, k4_l1, k4_l2, k4_l4, k4_l5, k4_i7, k4_i8, k4_i9, k4_b10, k4_i11, f0, -eq_self]
  refine ⟨fun c72 => ?_, fun c72 => ?_⟩
  refine ⟨fun c73 => ?_, fun c73 => ?_⟩
  · exact absurd (of_decide_eq_true c73) (by omega)
  refine ⟨fun c74 => ?_, fun c74 => ?_⟩
  intro e; (try simp only [e, Ins.eta, Prog.eta, insAt_mk, Span.eta, spanAt_mk, -eq_self]); clear e
  refine ⟨fun c75 => ?_, fun c75 => ?_⟩
  refine ⟨fun c76 => ?_, fun c76 => ?_⟩
  · exact absurd (of_decide_eq_true c76) (by omega)
  refine ⟨fun c77 => ?_, fun c77 => ?_⟩
  · have hj2 : j < pr.l.length := by have q := Int.ofNat_lt.1 (of_decide_eq_true c72); rwa [rows_len, hF.li] at q
    rw [addN hj2 hp]
    exact ⟨⟨j + 1, rfl, hj2⟩, by show pr.l.length - (((j + 1 : Nat) : Int)).toNat < pr.l.length - ((j : Int)).toNat; omega⟩
  refine ⟨fun c78 => ?_, fun c78 => ?_⟩
  refine ⟨fun c79 => ?_, fun c79 => ?_⟩
  · have hj2 : j < pr.l.length := by have q := Int.ofNat_lt.1 (of_decide_eq_true c72); rwa [rows_len, hF.li] at q
    (try rw [g0] at c78)
    (try rw [f0] at c79)
    rw [onT hF hj2 hs1, b2i_1] at c78
    rw [onT hF hj2 ht1, b2i_1] at c79
    rw [meet_on hj2 hs2 ht2 c78 c79] at c77
    exact Bool.noConfusion c77
  · have hj2 : j < pr.l.length := by have q := Int.ofNat_lt.1 (of_decide_eq_true c72); rwa [rows_len, hF.li] at q
    rw [addN hj2 hp]
    exact ⟨⟨j + 1, rfl, hj2⟩, by show pr.l.length - (((j + 1 : Nat) : Int)).toNat < pr.l.length - ((j : Int)).toNat; omega⟩
  · have hj2 : j < pr.l.length := by have q := Int.ofNat_lt.1 (of_decide_eq_true c72); rwa [rows_len, hF.li] at q
    rw [addN hj2 hp]
    exact ⟨⟨j + 1, rfl, hj2⟩, by show pr.l.length - (((j + 1 : Nat) : Int)).toNat < pr.l.length - ((j : Int)).toNat; omega⟩
  · have hj2 : j < pr.l.length := by have q := Int.ofNat_lt.1 (of_decide_eq_true c72); rwa [rows_len, hF.li] at q
    have q := of_decide_eq_false c75
    (try rw [rows_len, hF.lo] at q)
    exact absurd hj2 (by omega)
  · have hj2 : j < pr.l.length := by have q := Int.ofNat_lt.1 (of_decide_eq_true c72); rwa [rows_len, hF.li] at q
    have q := of_decide_eq_false c74
    (try rw [rows_len, hF.lo] at q)
    exact absurd hj2 (by omega)
  · rw [addN hk2 (Nat.le_trans (Nat.le_of_lt hi2) (Nat.le_trans (lspans_len pr 11) (by decide)))]
    exact ⟨⟨k + 1, rfl, hk2⟩, by show i - (((k + 1 : Nat) : Int)).toNat < i - ((k : Int)).toNat; omega⟩
  · exact absurd (of_decide_eq_false c71) (by have := of_decide_eq_true c69; omega)
  · rw [addN hi2 (Nat.le_trans (lspans_len pr 11) (by decide))]
    exact ⟨⟨i + 1, rfl, hi2⟩, by show (lspans pr 11).length - (((i + 1 : Nat) : Int)).toNat < (lspans pr 11).length - ((i : Int)).toNat; omega⟩
  · have hi2 : i < (lspans pr 11).length := Int.ofNat_lt.1 (of_decide_eq_true c41)
    obtain ⟨s, hs1, hs2, hs3⟩ := lspans_at hi2
    obtain ⟨g0, g1, g2, g3⟩ := gt_spn hs3
    have hw := span_whole hs2
    have hf := frI_0 hs2
    rw [g0] at c68
    exact absurd (of_decide_eq_false c68) (by omega)
  · have hi2 : i < (lspans pr 11).length := Int.ofNat_lt.1 (of_decide_eq_true c41)
    obtain ⟨s, hs1, hs2, hs3⟩ := lspans_at hi2
    obtain ⟨g0, g1, g2, g3⟩ := gt_spn hs3
    have hw := span_whole hs2
    have hf := frI_0 hs2
    rw [g2] at c66
    exact absurd (of_decide_eq_false c66) (by omega)
  intro e; (try simp only [e, Ins.eta, Prog.eta, insAt_mk, Span.eta, spanAt_mk, -eq_self]); clear e
  · rfl
  refine ⟨fun c80 => ?_, fun c80 => ?_⟩
  intro e; (try simp only [e, Ins.eta, Prog.eta, insAt_mk, Span.eta, spanAt_mk, -eq_self]); clear e
  · rfl
  · rw [srun_n (fun h => neI c2 ((srun_ee pr).trans h))] at c80
    exact absurd rfl (neI c80)
  · exact absurd ((srun_ee pr).trans (lrun_e pr).symm) (neI c1)
theorem sC_slive (xs : List Dt) (vals : List Value) (w : World) (hw : shRel w [.agg kProg] xs vals) : Calls Try.prog 7 vals.toArray w fun e w' => ∃ v, e = .returned v ∧ RetOk [.one .bool] false w w' (sF_slive xs) v :=
  (fun_calls (by kernel_rfl) tysok_SpF (smc (sK_srun rfl rfl) (smc (sK_jrun rfl rfl) (smc (sK_swakes rfl) (smc (sK_sof rfl rfl) (smc (sK_jwr rfl) (smc (sK_smeet rfl) sm0)))))) Try.func7 fn0 sR_slive (pre := fun _ => True) (fun x0 gx0 x1 gx1 hp ρ g => sX_slive ⟨x0, x1⟩ ⟨gx0, gx1⟩ ρ g) xs vals w hw trivial).2
set_option maxRecDepth 100000 in
set_option maxHeartbeats 8000000 in
theorem law_SpansLive {H : Type} {enc : TypeId × Value → H} {W : World} {r : Reach} {b0 : Nat} (v0 : Value) (k0 : Value.okWide Try.prog W r b0 24 v0) (d0 : DataW H) (p0 : List MemPlace) (h0 : DataW.Trod enc Try.prog W 0 (fun _ => true) true 24 v0 d0 p0) (_ : ∀ x ∈ p0, x.block < W.heap.size) :
    Calls Try.prog 7 #[v0] W fun e W' => e = .returned (.bool true) ∧ Below W.heap.size W W' := by
  obtain ⟨a0, q0, s0, rfl, w0, n0, m0, o0, l0⟩ := Prog.of_arg k0 h0
  refine (sC_slive (.z a0 :: ( .l q0 :: ([]))) _ W ⟨_, _, _, rfl, ⟨_, _, _, rfl, ⟨_, rfl, rfl, w0⟩, ⟨_, _, _, rfl, ⟨_, _, rfl, rfl, n0, m0, o0, l0⟩, ⟨rfl, rfl⟩⟩⟩, ⟨rfl, rfl⟩⟩).mono fun e W' ⟨v, he, hr⟩ => ?_
  have hv : v = .bool true := RetOk.says hr
  rw [he, hv]
  exact ⟨rfl, hr.ext⟩
end Go.Proofs.Ytmkaphfdgdkaoaa
