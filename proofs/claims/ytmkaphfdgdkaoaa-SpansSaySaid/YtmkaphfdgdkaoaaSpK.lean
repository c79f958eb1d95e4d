/- The law SpansSay. -/
import Derived.Test.YtmkaphfdgdkaoaaSpI
import Derived.Test.YtmkaphfdgdkaoaaSpJ
import Derived.Test.YtmkaphfdgdkaoaaLiQ
import Derived.Test.YtmkaphfdgdkaoaaProg
import Derived.Laws.Externs
set_option linter.unusedVariables false
set_option linter.unusedSimpArgs false
namespace Go.Proofs.Ytmkaphfdgdkaoaa
open Go.RowKit Go.ChangeShapes Go.WideShapes

theorem rwSpan : Rw Try.prog 47 [some .i64, some .i64, some .i64, none] := Rw.struct (ks := [some .i64, some .i64, some .i64, none]) (RwSeq.cons (ks := [some .i64]) rwI64 (by rfl) (RwSeq.cons (ks := [some .i64]) rwI64 (by rfl) (RwSeq.cons (ks := [some .i64]) rwI64 (by rfl) (RwSeq.cons (ks := [none]) rwBo (by rfl) (RwSeq.nil _ _))))) Try.underlying47 (by kernel_rfl)
def tys_SpK : List (Nat × TI) := [(3, ⟨false, 1, [.int .i64 (.lit 0)], [], none, some .i64, false, false, none, 8, false, none, false⟩),
 (4, ⟨false, 1, [.bool (.tt false)], [], none, none, false, true, none, 1, false, none, false⟩),
 (27, ⟨false, 1, [.nsl], [], none, none, false, false, some 3, 24, false, none, false⟩),
 (42, ⟨false, 1, [.nsl], [], none, none, false, false, some 47, 24, false, none, false⟩),
 (47, ⟨true, 4, [.int .i64 (.lit 0), .int .i64 (.lit 0), .int .i64 (.lit 0), .bool (.tt false)], [(0, 3), (1, 3), (2, 3), (3, 4)], none, none, true, false, none, 32, false, none, false⟩)]
set_option maxRecDepth 100000 in
theorem tysck_SpK : (tys_SpK.all fun p => ckTI Try.prog p.1 p.2) = true := by kernel_rfl
theorem tyseq_SpK : (tys_SpK.all fun p => !p.2.eqok || ((Nat.beq p.1 47 && kindsC p.2.zero z_Span))) = true := by kernel_rfl
theorem tyskn_SpK : (tys_SpK.all fun p => !p.2.keyok) = true := by kernel_rfl
theorem tysok_SpK : ∀ t i, (t, i) ∈ tys_SpK → TIok Try.prog t i := by
  intro t i h
  refine TIok_of (all_at (f := ckTI Try.prog) tysck_SpK h) (fun he => ?_) (fun he => ?_) (fun he => ?_)
  · have h1 := List.all_eq_true.1 tyseq_SpK (t, i) h
    simp only [he, Bool.not_true, Bool.false_or, Bool.or_eq_true, Bool.and_eq_true] at h1
    have hs := h1.2
    obtain rfl := Nat.eq_of_beq_eq_true h1.1
    exact fun vs us hv hu => eq_Span vs us (kindsV_of hs hv) (kindsV_of hs hu)
  · have h1 := List.all_eq_true.1 tyseq_SpK (t, i) h
    simp only [he, Bool.not_true, Bool.false_or, Bool.or_eq_true, Bool.and_eq_true] at h1
    have hs := h1.2
    obtain rfl := Nat.eq_of_beq_eq_true h1.1
    exact grd_Span
  · have h1 := List.all_eq_true.1 tyskn_SpK (t, i) h
    simp [he] at h1
def sM_jof (key : Nat) : Sm := ⟨41, key, [.one (.sl [some .i64, some .i64, some .i64, none] 47), .one (.int .i64)], [.agg kSpan, .one .bool], true⟩
def sV_jof (l : List (List Int)) (r : Int) : List Dt := [.z (((sOf l r).1).reg), .z (((sOf l r).1).fr), .z (((sOf l r).1).to), .z (b2i (((sOf l r).1).ov)), .z (b2i ((sOf l r).2))]
def sF_jof : List Dt → List Dt
  | [.l x0, .z x1] => sV_jof x0 x1
  | _ => []
def sT_jof : Tr :=
(.loop 0 2 [.int .i64] (.cons (.lit 0) .nil)
(.br (.lt (.var 2) (.len (.lvar 0)))
(.br (.lt (.var 2) (.lit 0))
.panic
(.br (.eq (.get (.lvar 0) (.var 2) 0) (.var 1))
(.leaf (.cons (.get (.lvar 0) (.var 2) 0) (.cons (.get (.lvar 0) (.var 2) 1) (.cons (.get (.lvar 0) (.var 2) 2) (.consb (.getb (.lvar 0) (.var 2) 3) (.consb (.tt true) .nil))))))
(.next 0 (.cons (.bin .add .i64 (.var 2) (.lit 1)) .nil))))
(.leaf (.cons (.lit 0) (.cons (.lit 0) (.cons (.lit 0) (.consb (.tt false) (.consb (.tt false) .nil))))))))
def sP_jof : Spec := ⟨fun k => match k with | _ => fun _ => [], fun k => match k with | _ => fun _ => True⟩
set_option maxRecDepth 100000 in
theorem sR_jof : treeIs tys_SpK [] [] [(2, [.tmpI 6 .i64, .top 7, .top 8, .top 9, .top 10, .top 13, .top 14, .top 15, .top 16, .top 17, .top 18, .top 19, .top 20, .top 21, .top 22, .top 23, .top 5, .top 11, .top 12])] [] 200 Try.f41 [.one (.sl [some .i64, some .i64, some .i64, none] 47), .one (.int .i64)] [.agg kSpan, .one .bool] true [.list [some .i64, some .i64, some .i64, none], .int .i64] sT_jof := ⟨by kernel_rfl, by kernel_rfl, by kernel_rfl⟩
def sQ_jof : List Dt → Prop
  | [.l x0, .z x1] => let f (l : List (List Int)) (r : Int) : Prop := l.length ≤ maxLen; f x0 x1
  | _ => False
set_option maxRecDepth 100000 in
set_option maxHeartbeats 8000000 in
theorem sX_jof (l : List (List Int)) (hl : RowsIn [some .i64, some .i64, some .i64, none] l) (r : Int) (hr : inK .i64 r = true) (hp : sQ_jof [.l l, .z r]) (ρ : Env) (g : varsD ρ 0 [.list [some .i64, some .i64, some .i64, none], .int .i64] = [.l l, .z r]) : sT_jof.asks sP_jof (fun ρ e => e.D ρ = sF_jof [.l l, .z r]) ρ fun _ _ => False := by
  simp only [sQ_jof, b2i_one, Ins.eta, Prog.eta, insAt_mk, Span.eta, spanAt_mk] at hp
  have keepg := g
  simp only [varsD, varD, List.cons.injEq, Dt.z.injEq, Dt.l.injEq, b2i_eq_iff, Nat.reduceAdd, and_true] at g
  simp only [sT_jof, sP_jof, sF_jof, sV_jof, Tr.asks, upd_same, okDs, okD, eqs, E.I, E.B, E.L, E.R, E.D, E.vs, dI, dB, dL, varD, varsD, List.getElem?_cons_zero, List.getElem?_cons_succ, List.cons_append, List.nil_append, Nat.zero_add, Nat.add_zero, Nat.reduceAdd, and_true, true_and, b2i_one, -eq_self, Ins.eta, Prog.eta, insAt_mk, Span.eta, spanAt_mk, g]
  obtain ⟨k0_l0, k0_i1⟩ := g
  refine ⟨fun ds => ∃ j : Nat, ds = [.z (j : Int)] ∧ j ≤ l.length ∧ ∀ i : Nat, i < j → gt l (i : Int) 0 ≠ r, fun ds => l.length - (dI ds 0).toNat, ⟨0, rfl, Nat.zero_le _, fun i hi => absurd hi (by omega)⟩, ?_⟩
  intro ρ1 ha1 _ hi1
  obtain ⟨j, k1_i2, hj, hn⟩ := hi1
  simp only [List.cons.injEq, Dt.z.injEq, and_true] at k1_i2
  have k1_l0 : ρ1.l 0 = _ := (ha1 0 (by decide)).2.2.symm.trans k0_l0
  have k1_i1 : ρ1.i 1 = _ := (ha1 1 (by decide)).1.symm.trans k0_i1
  simp only [k1_l0, k1_i1, k1_i2, insAt_mk, spanAt_mk, -eq_self]
  refine ⟨fun c0 => ?_, fun c0 => ?_⟩
  refine ⟨fun c1 => ?_, fun c1 => ?_⟩
  · exact absurd (of_decide_eq_true c1) (by omega)
  refine ⟨fun c2 => ?_, fun c2 => ?_⟩
  · rw [sof_y hn (Int.ofNat_lt.1 (of_decide_eq_true c0)) (eqI c2)]; try rfl
  · have hj2 := Int.ofNat_lt.1 (of_decide_eq_true c0)
    rw [addN hj2 hp]
    exact ⟨⟨j + 1, rfl, hj2, fst_step hn (neI c2)⟩, by show l.length - (((j + 1 : Nat) : Int)).toNat < l.length - ((j : Int)).toNat; omega⟩
  · rw [sof_n hn (fun h => of_decide_eq_false c0 (Int.ofNat_lt.2 h))]; try rfl
theorem sK_jof {sp : Spec} {key : Nat} (hF : sp.F key = sF_jof) (hP : sp.pre key = sQ_jof) : SmOk Try.prog sp (sM_jof key) :=
  fun_ok (s := sM_jof key) hF hP (by kernel_rfl) tysok_SpK (sm0) Try.func41 fn0 sR_jof (.inr (fun xs h L hL => by unfold sQ_jof at h; split at h <;> first | exact h.elim | (simp at hL; subst hL; exact h))) (fun x0 gx0 x1 gx1 hp ρ g => sX_jof x0 gx0 x1 gx1 hp ρ g)
def sM_jmeet (key : Nat) : Sm := ⟨44, key, [.agg kSpan, .agg kSpan], [.one .bool], false⟩
def sV_jmeet (a : Span) (b : Span) : List Dt := [.z (b2i (sMeet a b))]
def sF_jmeet : List Dt → List Dt
  | [.z x0, .z x1, .z x2, .z x3, .z x4, .z x5, .z x6, .z x7] => sV_jmeet ⟨x0, x1, x2, (x3 == 1)⟩ ⟨x4, x5, x6, (x7 == 1)⟩
  | _ => []
def sT_jmeet : Tr :=
(.br (.lt (.var 2) (.var 1))
(.leaf (.consb (.tt false) .nil))
(.br (.lt (.var 6) (.var 5))
(.leaf (.consb (.tt false) .nil))
(.br (.lt (.var 6) (.var 1))
(.leaf (.consb (.tt false) .nil))
(.leaf (.consb (.not (.lt (.var 2) (.var 5))) .nil)))))
def sP_jmeet : Spec := ⟨fun k => match k with | _ => fun _ => [], fun k => match k with | _ => fun _ => True⟩
set_option maxRecDepth 100000 in
theorem sR_jmeet : treeIs tys_SpK [] [] [] [] 200 Try.f44 [.agg kSpan, .agg kSpan] [.one .bool] false [.int .i64, .int .i64, .int .i64, .bool, .int .i64, .int .i64, .int .i64, .bool] sT_jmeet := ⟨by kernel_rfl, by kernel_rfl, by kernel_rfl⟩
set_option maxRecDepth 100000 in
set_option maxHeartbeats 8000000 in
theorem sX_jmeet (a : Span) (ha : Span.ok a) (b : Span) (hb : Span.ok b) (ρ : Env) (g : varsD ρ 0 [.int .i64, .int .i64, .int .i64, .bool, .int .i64, .int .i64, .int .i64, .bool] = [.z a.reg, .z a.fr, .z a.to, .z (b2i a.ov), .z b.reg, .z b.fr, .z b.to, .z (b2i b.ov)]) : sT_jmeet.asks sP_jmeet (fun ρ e => e.D ρ = sF_jmeet [.z a.reg, .z a.fr, .z a.to, .z (b2i a.ov), .z b.reg, .z b.fr, .z b.to, .z (b2i b.ov)]) ρ fun _ _ => False := by
  simp only [varsD, varD, List.cons.injEq, Dt.z.injEq, Dt.l.injEq, b2i_eq_iff, Nat.reduceAdd, and_true] at g
  simp only [sT_jmeet, sP_jmeet, sF_jmeet, sV_jmeet, Tr.asks, upd_same, okDs, okD, eqs, E.I, E.B, E.L, E.R, E.D, E.vs, dI, dB, dL, varD, varsD, List.getElem?_cons_zero, List.getElem?_cons_succ, List.cons_append, List.nil_append, Nat.zero_add, Nat.add_zero, Nat.reduceAdd, and_true, true_and, b2i_one, -eq_self, Ins.eta, Prog.eta, insAt_mk, Span.eta, spanAt_mk, g]
  refine ⟨fun c0 => ?_, fun c0 => ?_⟩
  · rw [show sMeet a b = false from decide_eq_false (fun h => by have := of_decide_eq_true c0; omega)]; try rfl
  refine ⟨fun c1 => ?_, fun c1 => ?_⟩
  · rw [show sMeet a b = false from decide_eq_false (fun h => by have := of_decide_eq_true c1; omega)]; try rfl
  refine ⟨fun c2 => ?_, fun c2 => ?_⟩
  · rw [show sMeet a b = false from decide_eq_false (fun h => by have := of_decide_eq_true c2; omega)]; try rfl
  · have e : sMeet a b = !decide (a.to < b.fr) := by unfold sMeet; rw [Bool.eq_iff_iff, decide_eq_true_eq, Bool.not_eq_true', decide_eq_false_iff_not]; have := of_decide_eq_false c0; have := of_decide_eq_false c1; have := of_decide_eq_false c2; omega
    rw [e]; try rfl
theorem sK_jmeet {sp : Spec} {key : Nat} (hF : sp.F key = sF_jmeet) (hP : sp.pre key = fun _ => True := by rfl) : SmOk Try.prog sp (sM_jmeet key) :=
  fun_ok (s := sM_jmeet key) hF hP (by kernel_rfl) tysok_SpK (sm0) Try.func44 fn0 sR_jmeet (.inl rfl) (fun x0 gx0 x1 gx1 x2 gx2 x3 x4 gx4 x5 gx5 x6 gx6 x7 hp ρ g => sX_jmeet ⟨x0, x1, x2, x3⟩ ⟨gx0, gx1, gx2⟩ ⟨x4, x5, x6, x7⟩ ⟨gx4, gx5, gx6⟩ ρ g)
def sM_ints4 (key : Nat) : Sm := ⟨42, key, [.one (.sl [some .i64] 3), .one (.sl [some .i64] 3)], [.one .bool], false⟩
def sV_ints4 (a : List (List Int)) (b : List (List Int)) : List Dt := [.z (b2i (decide (a = b)))]
def sF_ints4 : List Dt → List Dt
  | [.l x0, .l x1] => sV_ints4 x0 x1
  | _ => []
def sT_ints4 : Tr :=
(.br (.eq (.len (.lvar 0)) (.len (.lvar 1)))
(.loop 0 2 [.int .i64] (.cons (.lit 0) .nil)
(.br (.lt (.var 2) (.len (.lvar 0)))
(.br (.lt (.var 2) (.lit 0))
.panic
(.br (.lt (.var 2) (.len (.lvar 1)))
(.br (.eq (.get (.lvar 0) (.var 2) 0) (.get (.lvar 1) (.var 2) 0))
(.next 0 (.cons (.bin .add .i64 (.var 2) (.lit 1)) .nil))
(.leaf (.consb (.tt false) .nil)))
.panic))
(.leaf (.consb (.tt true) .nil))))
(.leaf (.consb (.tt false) .nil)))
def sP_ints4 : Spec := ⟨fun k => match k with | _ => fun _ => [], fun k => match k with | _ => fun _ => True⟩
set_option maxRecDepth 100000 in
theorem sR_ints4 : treeIs tys_SpK [] [] [(4, [.tmpI 5 .i64, .top 11, .top 12, .top 13, .top 14, .top 17, .top 18, .top 19, .top 20, .top 21, .top 22, .top 23, .top 24, .top 25, .top 4, .top 15, .top 16])] [] 200 Try.f42 [.one (.sl [some .i64] 3), .one (.sl [some .i64] 3)] [.one .bool] false [.list [some .i64], .list [some .i64]] sT_ints4 := ⟨by kernel_rfl, by kernel_rfl, by kernel_rfl⟩
def sQ_ints4 : List Dt → Prop
  | [.l x0, .l x1] => let f (a : List (List Int)) (b : List (List Int)) : Prop := (a.length ≤ maxLen ∧ b.length ≤ maxLen); f x0 x1
  | _ => False
set_option maxRecDepth 100000 in
set_option maxHeartbeats 8000000 in
theorem sX_ints4 (a : List (List Int)) (ha : RowsIn [some .i64] a) (b : List (List Int)) (hb : RowsIn [some .i64] b) (hp : sQ_ints4 [.l a, .l b]) (ρ : Env) (g : varsD ρ 0 [.list [some .i64], .list [some .i64]] = [.l a, .l b]) : sT_ints4.asks sP_ints4 (fun ρ e => e.D ρ = sF_ints4 [.l a, .l b]) ρ fun _ _ => False := by
  simp only [sQ_ints4, b2i_one, Ins.eta, Prog.eta, insAt_mk, Span.eta, spanAt_mk] at hp
  have keepg := g
  simp only [varsD, varD, List.cons.injEq, Dt.z.injEq, Dt.l.injEq, b2i_eq_iff, Nat.reduceAdd, and_true] at g
  simp only [sT_ints4, sP_ints4, sF_ints4, sV_ints4, Tr.asks, upd_same, okDs, okD, eqs, E.I, E.B, E.L, E.R, E.D, E.vs, dI, dB, dL, varD, varsD, List.getElem?_cons_zero, List.getElem?_cons_succ, List.cons_append, List.nil_append, Nat.zero_add, Nat.add_zero, Nat.reduceAdd, and_true, true_and, b2i_one, -eq_self, Ins.eta, Prog.eta, insAt_mk, Span.eta, spanAt_mk, g]
  obtain ⟨k0_l0, k0_l1⟩ := g
  refine ⟨fun c0 => ?_, fun c0 => ?_⟩
  have hab : a.length = b.length := Int.ofNat.inj (eqI c0)
  refine ⟨fun ds => ∃ j : Nat, ds = [.z (j : Int)] ∧ j ≤ a.length ∧ a.take j = b.take j, fun ds => a.length - (dI ds 0).toNat, ⟨0, rfl, Nat.zero_le _, rfl⟩, ?_⟩
  intro ρ1 ha1 _ hi1
  obtain ⟨j, k1_i2, hj, hn⟩ := hi1
  simp only [List.cons.injEq, Dt.z.injEq, and_true] at k1_i2
  have k1_l0 : ρ1.l 0 = _ := (ha1 0 (by decide)).2.2.symm.trans k0_l0
  have k1_l1 : ρ1.l 1 = _ := (ha1 1 (by decide)).2.2.symm.trans k0_l1
  simp only [k1_l0, k1_l1, k1_i2, insAt_mk, -eq_self]
  refine ⟨fun c1 => ?_, fun c1 => ?_⟩
  refine ⟨fun c2 => ?_, fun c2 => ?_⟩
  · exact absurd (of_decide_eq_true c2) (by omega)
  refine ⟨fun c3 => ?_, fun c3 => ?_⟩
  refine ⟨fun c4 => ?_, fun c4 => ?_⟩
  · have hj2 := Int.ofNat_lt.1 (of_decide_eq_true c1)
    rw [addN hj2 hp.1]
    exact ⟨⟨j + 1, rfl, hj2, take_step ha hb hn hj2 (hab ▸ hj2) (eqI c4)⟩, by show a.length - (((j + 1 : Nat) : Int)).toNat < a.length - ((j : Int)).toNat; omega⟩
  · rw [decide_eq_false (fun h => neI c4 (by rw [h]))]; try rfl
  · have hj2 := Int.ofNat_lt.1 (of_decide_eq_true c1)
    exact absurd (of_decide_eq_false c3) (by omega)
  · rw [decide_eq_true (take_all hn (fun h => of_decide_eq_false c1 (Int.ofNat_lt.2 h)) hab)]; try rfl
  · rw [decide_eq_false (fun h => neI c0 (by rw [h]))]; try rfl
theorem sK_ints4 {sp : Spec} {key : Nat} (hF : sp.F key = sF_ints4) (hP : sp.pre key = sQ_ints4) : SmOk Try.prog sp (sM_ints4 key) :=
  fun_ok (s := sM_ints4 key) hF hP (by kernel_rfl) tysok_SpK (sm0) Try.func42 fn0 sR_ints4 (.inr (fun xs h L hL => by unfold sQ_ints4 at h; split at h <;> first | exact h.elim | (simp at hL; rcases hL with rfl | rfl; exact h.1; exact h.2))) (fun x0 gx0 x1 gx1 hp ρ g => sX_ints4 x0 gx0 x1 gx1 hp ρ g)
def sM_ssay (key : Nat) : Sm := ⟨12, key, [.one (.sl [some .i64, some .i64, some .i64, none] 47), .one (.int .i64), .one (.int .i64), .agg kSpan, .agg kSpan], [.one .bool], false⟩
def sV_ssay (l : List (List Int)) (r : Int) (i : Int) (x : Span) (y : Span) : List Dt := [.z (b2i true)]
def sF_ssay : List Dt → List Dt
  | [.l x0, .z x1, .z x2, .z x3, .z x4, .z x5, .z x6, .z x7, .z x8, .z x9, .z x10] => sV_ssay x0 x1 x2 ⟨x3, x4, x5, (x6 == 1)⟩ ⟨x7, x8, x9, (x10 == 1)⟩
  | _ => []
def sT_ssay : Tr :=
(.br (.lt (.lit 100) (.len (.lvar 0)))
(.call 9 ([.bool]) .nil 11
(.leaf (.consb (.bvar 11) .nil)))
(.call 0 (kSpan ++ [.bool]) (.consl (.lvar 0) (.cons (.var 1) .nil)) 11
(.call 1 (kSpan ++ [.bool]) (.consl (.lvar 0) (.cons (.var 1) .nil)) 16
(.br (.eq (.var 11) (.var 16))
(.br (.eq (.var 12) (.var 17))
(.br (.eq (.var 13) (.var 18))
(.br (.beq (.bvar 14) (.bvar 19))
(.br (.beq (.bvar 15) (.bvar 20))
(.call 2 ([.sl [some .i64] 3]) (.consl (.lvar 0) (.cons (.var 2) .nil)) 21
(.call 3 ([.sl [some .i64] 3]) (.consl (.lvar 0) (.cons (.var 2) .nil)) 22
(.call 4 ([.bool]) (.consl (.lvar 21) (.consl (.lvar 22) .nil)) 23
(.br (.bvar 23)
(.call 5 ([.bool]) (.vs 3 3 (.consb (.bvar 6) (.vs 7 3 (.consb (.bvar 10) .nil)))) 24
(.call 6 ([.bool]) (.vs 3 3 (.consb (.bvar 6) (.vs 7 3 (.consb (.bvar 10) .nil)))) 25
(.br (.beq (.bvar 24) (.bvar 25))
(.call 7 ([.int .i64]) (.consl (.lvar 0) .nil) 26
(.call 8 ([.int .i64]) (.consl (.lvar 0) .nil) 27
(.br (.eq (.var 26) (.var 27))
(.call 9 ([.bool]) .nil 28
(.leaf (.consb (.bvar 28) .nil)))
(.leaf (.consb (.tt false) .nil)))))
(.leaf (.consb (.tt false) .nil)))))
(.leaf (.consb (.tt false) .nil))))))
(.leaf (.consb (.tt false) .nil)))
(.leaf (.consb (.tt false) .nil)))
(.leaf (.consb (.tt false) .nil)))
(.leaf (.consb (.tt false) .nil)))
(.leaf (.consb (.tt false) .nil))))))
def sP_ssay : Spec := ⟨fun k => match k with | 0 => sF_sof | 1 => sF_jof | 2 => sF_sat | 3 => sF_jat | 4 => sF_ints4 | 5 => sF_smeet | 6 => sF_jmeet | 7 => sF_smost | 8 => sF_jmost | 9 => sF_swakes | _ => fun _ => [], fun k => match k with | 0 => sQ_sof | 1 => sQ_jof | 2 => sQ_sat | 3 => sQ_jat | 4 => sQ_ints4 | 7 => sQ_smost | 8 => sQ_jmost | _ => fun _ => True⟩
set_option maxRecDepth 100000 in
theorem sR_ssay : treeIs tys_SpK [sM_sof 0, sM_jof 1, sM_sat 2, sM_jat 3, sM_ints4 4, sM_smeet 5, sM_jmeet 6, sM_smost 7, sM_jmost 8, sM_swakes 9] [] [] [] 200 Try.f12 [.one (.sl [some .i64, some .i64, some .i64, none] 47), .one (.int .i64), .one (.int .i64), .agg kSpan, .agg kSpan] [.one .bool] false [.list [some .i64, some .i64, some .i64, none], .int .i64, .int .i64, .int .i64, .int .i64, .int .i64, .bool, .int .i64, .int .i64, .int .i64, .bool] sT_ssay := ⟨by kernel_rfl, by kernel_rfl, by kernel_rfl⟩
set_option maxRecDepth 100000 in
set_option maxHeartbeats 8000000 in
theorem sX_ssay (l : List (List Int)) (hl : RowsIn [some .i64, some .i64, some .i64, none] l) (r : Int) (hr : inK .i64 r = true) (i : Int) (hi : inK .i64 i = true) (x : Span) (hx : Span.ok x) (y : Span) (hy : Span.ok y) (ρ : Env) (g : varsD ρ 0 [.list [some .i64, some .i64, some .i64, none], .int .i64, .int .i64, .int .i64, .int .i64, .int .i64, .bool, .int .i64, .int .i64, .int .i64, .bool] = [.l l, .z r, .z i, .z x.reg, .z x.fr, .z x.to, .z (b2i x.ov), .z y.reg, .z y.fr, .z y.to, .z (b2i y.ov)]) : sT_ssay.asks sP_ssay (fun ρ e => e.D ρ = sF_ssay [.l l, .z r, .z i, .z x.reg, .z x.fr, .z x.to, .z (b2i x.ov), .z y.reg, .z y.fr, .z y.to, .z (b2i y.ov)]) ρ fun _ _ => False := by
  simp only [varsD, varD, List.cons.injEq, Dt.z.injEq, Dt.l.injEq, b2i_eq_iff, Nat.reduceAdd, and_true] at g
  simp only [sT_ssay, sP_ssay, kSpan, sF_sof, sF_jof, sF_sat, sF_jat, sF_ints4, sF_smeet, sF_jmeet, sF_smost, sF_jmost, sF_swakes, sV_sof, sV_jof, sV_sat, sV_jat, sV_ints4, sV_smeet, sV_jmeet, sV_smost, sV_jmost, sF_ssay, sV_ssay, sQ_sof, sQ_jof, sQ_sat, sQ_jat, sQ_ints4, sQ_smost, sQ_jmost, Tr.asks, upd_same, okDs, okD, eqs, E.I, E.B, E.L, E.R, E.D, E.vs, dI, dB, dL, varD, varsD, List.getElem?_cons_zero, List.getElem?_cons_succ, List.cons_append, List.nil_append, Nat.zero_add, Nat.add_zero, Nat.reduceAdd, and_true, true_and, b2i_one, -eq_self, Ins.eta, Prog.eta, insAt_mk, Span.eta, spanAt_mk, g]
  refine ⟨fun c0 => ?_, fun c0 => ?_⟩
  intro e; (try simp only [e, Ins.eta, Prog.eta, insAt_mk, Span.eta, spanAt_mk, -eq_self]); clear e
  · rfl
  refine ⟨?_, ?_⟩
  · have h100 : l.length ≤ 100 := (Nat.not_lt.1 fun h => of_decide_eq_false c0 (by omega))
    exact Nat.le_trans h100 (by decide)
  intro e; (try simp only [e, Ins.eta, Prog.eta, insAt_mk, Span.eta, spanAt_mk, -eq_self]); clear e
  refine ⟨?_, ?_⟩
  · have h100 : l.length ≤ 100 := (Nat.not_lt.1 fun h => of_decide_eq_false c0 (by omega))
    exact Nat.le_trans h100 (by decide)
  intro e; (try simp only [e, Ins.eta, Prog.eta, insAt_mk, Span.eta, spanAt_mk, -eq_self]); clear e
  refine ⟨fun c1 => ?_, fun c1 => ?_⟩
  refine ⟨fun c2 => ?_, fun c2 => ?_⟩
  refine ⟨fun c3 => ?_, fun c3 => ?_⟩
  refine ⟨fun c4 => ?_, fun c4 => ?_⟩
  refine ⟨fun c5 => ?_, fun c5 => ?_⟩
  refine ⟨?_, ?_⟩
  · exact (Nat.not_lt.1 fun h => of_decide_eq_false c0 (by omega))
  intro e; (try simp only [e, Ins.eta, Prog.eta, insAt_mk, Span.eta, spanAt_mk, -eq_self]); clear e
  refine ⟨?_, ?_⟩
  · exact (Nat.not_lt.1 fun h => of_decide_eq_false c0 (by omega))
  intro e; (try simp only [e, Ins.eta, Prog.eta, insAt_mk, Span.eta, spanAt_mk, -eq_self]); clear e
  refine ⟨?_, ?_⟩
  · have h1 := sAt_len l i; have h2 : l.length ≤ 100 := (Nat.not_lt.1 fun h => of_decide_eq_false c0 (by omega)); exact ⟨Nat.le_trans (Nat.le_trans h1 h2) (by decide), Nat.le_trans (Nat.le_trans h1 h2) (by decide)⟩
  intro e; (try simp only [e, Ins.eta, Prog.eta, insAt_mk, Span.eta, spanAt_mk, -eq_self]); clear e
  refine ⟨fun c6 => ?_, fun c6 => ?_⟩
  intro e; (try simp only [e, Ins.eta, Prog.eta, insAt_mk, Span.eta, spanAt_mk, -eq_self]); clear e
  intro e; (try simp only [e, Ins.eta, Prog.eta, insAt_mk, Span.eta, spanAt_mk, -eq_self]); clear e
  refine ⟨fun c7 => ?_, fun c7 => ?_⟩
  refine ⟨?_, ?_⟩
  · exact (Nat.not_lt.1 fun h => of_decide_eq_false c0 (by omega))
  intro e; (try simp only [e, Ins.eta, Prog.eta, insAt_mk, Span.eta, spanAt_mk, -eq_self]); clear e
  refine ⟨?_, ?_⟩
  · exact (Nat.not_lt.1 fun h => of_decide_eq_false c0 (by omega))
  intro e; (try simp only [e, Ins.eta, Prog.eta, insAt_mk, Span.eta, spanAt_mk, -eq_self]); clear e
  refine ⟨fun c8 => ?_, fun c8 => ?_⟩
  intro e; (try simp only [e, Ins.eta, Prog.eta, insAt_mk, Span.eta, spanAt_mk, -eq_self]); clear e
  · rfl
  · first | exact absurd rfl (neI c8) | (simp at c8)
  · first | exact absurd rfl (neI c7) | (simp at c7)
  · first | exact absurd rfl (neI c6) | (simp at c6)
  · first | exact absurd rfl (neI c5) | (simp at c5)
  · first | exact absurd rfl (neI c4) | (simp at c4)
  · first | exact absurd rfl (neI c3) | (simp at c3)
  · first | exact absurd rfl (neI c2) | (simp at c2)
  · first | exact absurd rfl (neI c1) | (simp at c1)
theorem sC_ssay (xs : List Dt) (vals : List Value) (w : World) (hw : shRel w [.one (.sl [some .i64, some .i64, some .i64, none] 47), .one (.int .i64), .one (.int .i64), .agg kSpan, .agg kSpan] xs vals) : Calls Try.prog 12 vals.toArray w fun e w' => ∃ v, e = .returned v ∧ RetOk [.one .bool] false w w' (sF_ssay xs) v :=
  (fun_calls (by kernel_rfl) tysok_SpK (smc (sK_sof rfl rfl) (smc (sK_jof rfl rfl) (smc (sK_sat rfl rfl) (smc (sK_jat rfl rfl) (smc (sK_ints4 rfl rfl) (smc (sK_smeet rfl) (smc (sK_jmeet rfl) (smc (sK_smost rfl rfl) (smc (sK_jmost rfl rfl) (smc (sK_swakes rfl) sm0)))))))))) Try.func12 fn0 sR_ssay (pre := fun _ => True) (fun x0 gx0 x1 gx1 x2 gx2 x3 gx3 x4 gx4 x5 gx5 x6 x7 gx7 x8 gx8 x9 gx9 x10 hp ρ g => sX_ssay x0 gx0 x1 gx1 x2 gx2 ⟨x3, x4, x5, x6⟩ ⟨gx3, gx4, gx5⟩ ⟨x7, x8, x9, x10⟩ ⟨gx7, gx8, gx9⟩ ρ g) xs vals w hw trivial).2
set_option maxRecDepth 100000 in
set_option maxHeartbeats 8000000 in
theorem law_SpansSay {H : Type} {enc : TypeId × Value → H} {W : World} {r : Reach} {b0 : Nat} (v0 : Value) (k0 : Value.okWide Try.prog W r b0 42 v0) (d0 : DataW H) (p0 : List MemPlace) (h0 : DataW.Trod enc Try.prog W 0 (fun _ => true) true 42 v0 d0 p0) (_ : ∀ x ∈ p0, x.block < W.heap.size) (a1 : Int) (w1 : (Lit.int .i64 a1).wf = true) (a2 : Int) (w2 : (Lit.int .i64 a2).wf = true) (v3 : Value) (k3 : Value.okWide Try.prog W r b0 47 v3) (d3 : DataW H) (p3 : List MemPlace) (h3 : DataW.Trod enc Try.prog W 0 (fun _ => true) true 47 v3 d3 p3) (_ : ∀ x ∈ p3, x.block < W.heap.size) (v4 : Value) (k4 : Value.okWide Try.prog W r b0 47 v4) (d4 : DataW H) (p4 : List MemPlace) (h4 : DataW.Trod enc Try.prog W 0 (fun _ => true) true 47 v4 d4 p4) (_ : ∀ x ∈ p4, x.block < W.heap.size) :
    Calls Try.prog 12 #[v0, .int .i64 a1, .int .i64 a2, v3, v4] W fun e W' => e = .returned (.bool true) ∧ Below W.heap.size W W' := by
  obtain ⟨q0, s0, rfl, n0, m0, o0, l0⟩ := sl_of_arg rwSpan (by decide) Try.underlying42 k0 h0
  obtain ⟨q3, rfl, g3⟩ := agg_of_arg rwSpan Try.underlying47 k3 h3
  obtain ⟨y3_0, q3, rfl, e3_0, g3⟩ := rowIn_cons g3
  obtain ⟨y3_1, q3, rfl, e3_1, g3⟩ := rowIn_cons g3
  obtain ⟨y3_2, q3, rfl, e3_2, g3⟩ := rowIn_cons g3
  obtain ⟨y3_3, q3, rfl, e3_3, g3⟩ := rowIn_cons g3
  obtain rfl := rowIn_nil g3
  obtain ⟨y3_3, rfl⟩ := ce_bool e3_3
  obtain ⟨q4, rfl, g4⟩ := agg_of_arg rwSpan Try.underlying47 k4 h4
  obtain ⟨y4_0, q4, rfl, e4_0, g4⟩ := rowIn_cons g4
  obtain ⟨y4_1, q4, rfl, e4_1, g4⟩ := rowIn_cons g4
  obtain ⟨y4_2, q4, rfl, e4_2, g4⟩ := rowIn_cons g4
  obtain ⟨y4_3, q4, rfl, e4_3, g4⟩ := rowIn_cons g4
  obtain rfl := rowIn_nil g4
  obtain ⟨y4_3, rfl⟩ := ce_bool e4_3
  refine (sC_ssay (.l q0 :: ( .z a1 :: ( .z a2 :: ( .z y3_0 :: ( .z y3_1 :: ( .z y3_2 :: ( .z (b2i y3_3) :: ( .z y4_0 :: ( .z y4_1 :: ( .z y4_2 :: ( .z (b2i y4_3) :: ([])))))))))))) _ W ⟨_, _, _, rfl, ⟨_, _, rfl, rfl, n0, m0, o0, l0⟩, ⟨_, _, _, rfl, ⟨_, rfl, rfl, (inK_of_wf w1)⟩, ⟨_, _, _, rfl, ⟨_, rfl, rfl, (inK_of_wf w2)⟩, ⟨_, _, _, rfl, ⟨_, _, _, rfl, ⟨_, rfl, rfl, e3_0⟩, ⟨_, _, _, rfl, ⟨_, rfl, rfl, e3_1⟩, ⟨_, _, _, rfl, ⟨_, rfl, rfl, e3_2⟩, ⟨_, _, _, rfl, ⟨_, rfl, congrArg Value.bool (b2i_eq _)⟩, ⟨rfl, rfl⟩⟩⟩⟩⟩, ⟨_, _, _, rfl, ⟨_, _, _, rfl, ⟨_, rfl, rfl, e4_0⟩, ⟨_, _, _, rfl, ⟨_, rfl, rfl, e4_1⟩, ⟨_, _, _, rfl, ⟨_, rfl, rfl, e4_2⟩, ⟨_, _, _, rfl, ⟨_, rfl, congrArg Value.bool (b2i_eq _)⟩, ⟨rfl, rfl⟩⟩⟩⟩⟩, ⟨rfl, rfl⟩⟩⟩⟩⟩⟩).mono fun e W' ⟨v, he, hr⟩ => ?_
  have hv : v = .bool true := RetOk.says hr
  rw [he, hv]
  exact ⟨rfl, hr.ext⟩
end Go.Proofs.Ytmkaphfdgdkaoaa
