/- Contracts of the document's own At and Most. -/
import Derived.Test.YtmkaphfdgdkaoaaSpG
import Derived.Test.YtmkaphfdgdkaoaaSpF
import Derived.Test.YtmkaphfdgdkaoaaProg
import Derived.Laws.Externs
set_option linter.unusedVariables false
set_option linter.unusedSimpArgs false
namespace Go.Proofs.Ytmkaphfdgdkaoaa
open Go.RowKit Go.ChangeShapes Go.WideShapes

def tys_SpJ : List (Nat × TI) := [(3, ⟨false, 1, [.int .i64 (.lit 0)], [], none, some .i64, false, false, none, 8, false, none, false⟩),
 (4, ⟨false, 1, [.bool (.tt false)], [], none, none, false, true, none, 1, false, none, false⟩),
 (27, ⟨false, 1, [.nsl], [], none, none, false, false, some 3, 24, false, none, false⟩),
 (42, ⟨false, 1, [.nsl], [], none, none, false, false, some 47, 24, false, none, false⟩),
 (47, ⟨true, 4, [.int .i64 (.lit 0), .int .i64 (.lit 0), .int .i64 (.lit 0), .bool (.tt false)], [(0, 3), (1, 3), (2, 3), (3, 4)], none, none, true, false, none, 32, false, none, false⟩)]
set_option maxRecDepth 100000 in
theorem tysck_SpJ : (tys_SpJ.all fun p => ckTI Try.prog p.1 p.2) = true := by kernel_rfl
theorem tyseq_SpJ : (tys_SpJ.all fun p => !p.2.eqok || ((Nat.beq p.1 47 && kindsC p.2.zero z_Span))) = true := by kernel_rfl
theorem tyskn_SpJ : (tys_SpJ.all fun p => !p.2.keyok) = true := by kernel_rfl
theorem tysok_SpJ : ∀ t i, (t, i) ∈ tys_SpJ → TIok Try.prog t i := by
  intro t i h
  refine TIok_of (all_at (f := ckTI Try.prog) tysck_SpJ h) (fun he => ?_) (fun he => ?_) (fun he => ?_)
  · have h1 := List.all_eq_true.1 tyseq_SpJ (t, i) h
    simp only [he, Bool.not_true, Bool.false_or, Bool.or_eq_true, Bool.and_eq_true] at h1
    have hs := h1.2
    obtain rfl := Nat.eq_of_beq_eq_true h1.1
    exact fun vs us hv hu => eq_Span vs us (kindsV_of hs hv) (kindsV_of hs hu)
  · have h1 := List.all_eq_true.1 tyseq_SpJ (t, i) h
    simp only [he, Bool.not_true, Bool.false_or, Bool.or_eq_true, Bool.and_eq_true] at h1
    have hs := h1.2
    obtain rfl := Nat.eq_of_beq_eq_true h1.1
    exact grd_Span
  · have h1 := List.all_eq_true.1 tyskn_SpJ (t, i) h
    simp [he] at h1
def sM_jat (key : Nat) : Sm := ⟨43, key, [.one (.sl [some .i64, some .i64, some .i64, none] 47), .one (.int .i64)], [.one (.sl [some .i64] 3)], false⟩
def sV_jat (l : List (List Int)) (i : Int) : List Dt := [.l (sAt l i)]
def sF_jat : List Dt → List Dt
  | [.l x0, .z x1] => sV_jat x0 x1
  | _ => []
def sT_jat : Tr :=
(.loop 0 2 [.int .i64, .list [some .i64]] (.cons (.lit 0) (.consl .lnil .nil))
(.br (.lt (.var 2) (.len (.lvar 0)))
(.br (.lt (.var 2) (.lit 0))
.panic
(.br (.lt (.var 1) (.get (.lvar 0) (.var 2) 1))
(.next 0 (.cons (.bin .add .i64 (.var 2) (.lit 1)) (.consl (.lvar 3) .nil)))
(.br (.lt (.get (.lvar 0) (.var 2) 2) (.var 1))
(.next 0 (.cons (.bin .add .i64 (.var 2) (.lit 1)) (.consl (.lvar 3) .nil)))
(.loop 1 4 [.int .i64] (.cons (.lit 0) .nil)
(.br (.lt (.var 4) (.len (.lvar 3)))
(.br (.lt (.var 4) (.lit 0))
.panic
(.br (.lt (.get (.lvar 3) (.var 4) 0) (.get (.lvar 0) (.var 2) 0))
(.next 1 (.cons (.bin .add .i64 (.var 4) (.lit 1)) .nil))
(.br (.eq (.get (.lvar 3) (.var 4) 0) (.get (.lvar 0) (.var 2) 0))
(.next 0 (.cons (.bin .add .i64 (.var 2) (.lit 1)) (.consl (.lvar 3) .nil)))
(.br (.lt (.len (.lvar 3)) (.var 4))
.panic
(.br (.lt (.len (.ltake (.lvar 3) (.var 4))) (.lit 1073741824))
(.br (.lt (.len (.lapp (.ltake (.lvar 3) (.var 4)) (.cons (.get (.lvar 0) (.var 2) 0) .nil))) (.lit 1073741824))
(.br (.lt (.len (.ldrop (.lvar 3) (.var 4))) (.lit 1073741824))
(.next 0 (.cons (.bin .add .i64 (.var 2) (.lit 1)) (.consl (.lcat (.lapp (.ltake (.lvar 3) (.var 4)) (.cons (.get (.lvar 0) (.var 2) 0) .nil)) (.ldrop (.lvar 3) (.var 4))) .nil)))
.panic)
.panic)
.panic)))))
(.br (.lt (.var 4) (.lit 0))
.panic
(.br (.lt (.len (.lvar 3)) (.var 4))
.panic
(.br (.lt (.len (.ltake (.lvar 3) (.var 4))) (.lit 1073741824))
(.br (.lt (.len (.lapp (.ltake (.lvar 3) (.var 4)) (.cons (.get (.lvar 0) (.var 2) 0) .nil))) (.lit 1073741824))
(.br (.lt (.len (.ldrop (.lvar 3) (.var 4))) (.lit 1073741824))
(.next 0 (.cons (.bin .add .i64 (.var 2) (.lit 1)) (.consl (.lcat (.lapp (.ltake (.lvar 3) (.var 4)) (.cons (.get (.lvar 0) (.var 2) 0) .nil)) (.ldrop (.lvar 3) (.var 4))) .nil)))
.panic)
.panic)
.panic))))))))
(.leaf (.consl (.lvar 3) .nil))))
def sP_jat : Spec := ⟨fun k => match k with | _ => fun _ => [], fun k => match k with | _ => fun _ => True⟩
set_option maxRecDepth 100000 in
theorem sR_jat : treeIs tys_SpJ [] [(70, Try.f70, [(2, [.tmpI 5 .i64, .top 7, .top 8, .top 9, .top 10, .top 11, .top 12, .top 13, .top 14, .top 15, .top 16, .top 17, .top 18, .top 19, .top 20])], [])] [(3, [.tmpI 6 .i64, .tmpS 5 [some .i64] 3, .top 7, .top 8, .top 9, .top 10, .top 13, .top 14, .top 15, .top 16, .top 17, .top 18, .top 19, .top 20, .top 21, .top 22, .top 23, .top 24, .top 25, .top 26, .top 27, .top 28, .top 29, .top 30, .top 31, .top 32, .top 33, .top 34, .top 35, .top 11, .top 12])] [] 200 Try.f43 [.one (.sl [some .i64, some .i64, some .i64, none] 47), .one (.int .i64)] [.one (.sl [some .i64] 3)] false [.list [some .i64, some .i64, some .i64, none], .int .i64] sT_jat := ⟨by kernel_rfl, by kernel_rfl, by kernel_rfl⟩
def sQ_jat : List Dt → Prop
  | [.l x0, .z x1] => let f (l : List (List Int)) (i : Int) : Prop := l.length ≤ 100; f x0 x1
  | _ => False
set_option maxRecDepth 100000 in
set_option maxHeartbeats 8000000 in
theorem sX_jat (l : List (List Int)) (hl : RowsIn [some .i64, some .i64, some .i64, none] l) (i : Int) (hi : inK .i64 i = true) (hp : sQ_jat [.l l, .z i]) (ρ : Env) (g : varsD ρ 0 [.list [some .i64, some .i64, some .i64, none], .int .i64] = [.l l, .z i]) : sT_jat.asks sP_jat (fun ρ e => e.D ρ = sF_jat [.l l, .z i]) ρ fun _ _ => False := by
  simp only [sQ_jat, b2i_one, Ins.eta, Prog.eta, insAt_mk, Span.eta, spanAt_mk] at hp
  have keepg := g
  simp only [varsD, varD, List.cons.injEq, Dt.z.injEq, Dt.l.injEq, b2i_eq_iff, Nat.reduceAdd, and_true] at g
  simp only [sT_jat, sP_jat, sF_jat, sV_jat, Tr.asks, upd_same, okDs, okD, eqs, E.I, E.B, E.L, E.R, E.D, E.vs, dI, dB, dL, varD, varsD, List.getElem?_cons_zero, List.getElem?_cons_succ, List.cons_append, List.nil_append, Nat.zero_add, Nat.add_zero, Nat.reduceAdd, and_true, true_and, b2i_one, -eq_self, Ins.eta, Prog.eta, insAt_mk, Span.eta, spanAt_mk, g]
  obtain ⟨k0_l0, k0_i1⟩ := g
  have hm : l.length ≤ maxLen := Nat.le_trans hp (by decide)
  refine ⟨fun ds => ∃ n : Nat, ds = [.z (n : Int), .l (rowsI (jatN l i n))] ∧ n ≤ l.length, fun ds => l.length - (dI ds 0).toNat, ⟨0, rfl, Nat.zero_le _⟩, ?_⟩
  intro ρ1 ha1 _ hi1
  obtain ⟨n, hds, hn⟩ := hi1
  simp only [List.cons.injEq, Dt.z.injEq, Dt.l.injEq, b2i_eq_iff, and_true] at hds
  obtain ⟨k1_i2, k1_l3⟩ := hds
  have k1_l0 : ρ1.l 0 = _ := (ha1 0 (by decide)).2.2.symm.trans k0_l0
  have k1_i1 : ρ1.i 1 = _ := (ha1 1 (by decide)).1.symm.trans k0_i1
  simp only [k1_l0, k1_i1, k1_i2, k1_l3, insAt_mk, -eq_self]
  refine ⟨fun c0 => ?_, fun c0 => ?_⟩
  refine ⟨fun c1 => ?_, fun c1 => ?_⟩
  · exact absurd (of_decide_eq_true c1) (by omega)
  refine ⟨fun c2 => ?_, fun c2 => ?_⟩
  · have hn2 : n < l.length := Int.ofNat_lt.1 (of_decide_eq_true c0)
    exact ⟨⟨n + 1, (by rw [addN hn2 hm, jatN_n (onS_no1 c2)]; try rfl), hn2⟩, by rw [addN hn2 hm]; show l.length - (((n + 1 : Nat) : Int)).toNat < l.length - ((n : Int)).toNat; omega⟩
  refine ⟨fun c3 => ?_, fun c3 => ?_⟩
  · have hn2 : n < l.length := Int.ofNat_lt.1 (of_decide_eq_true c0)
    exact ⟨⟨n + 1, (by rw [addN hn2 hm, jatN_n (onS_no2 c3)]; try rfl), hn2⟩, by rw [addN hn2 hm]; show l.length - (((n + 1 : Nat) : Int)).toNat < l.length - ((n : Int)).toNat; omega⟩
  have hn2 : n < l.length := Int.ofNat_lt.1 (of_decide_eq_true c0)
  have hal := jatN_len l i n
  have hon := onS_yes c2 c3
  refine ⟨fun ds => ∃ k : Nat, ds = [.z (k : Int)] ∧ k ≤ (jatN l i n).length ∧ ∀ j, j < k → (jatN l i n).getD j 0 < gt l (n : Int) 0, fun ds => (jatN l i n).length - (dI ds 0).toNat, ⟨0, rfl, Nat.zero_le _, fun j hj => absurd hj (by omega)⟩, ?_⟩
  intro ρ2 ha2 _ hi2
  obtain ⟨k, k2_i4, hk, hlo⟩ := hi2
  simp only [List.cons.injEq, Dt.z.injEq, and_true] at k2_i4
  have k2_l0 : ρ2.l 0 = _ := (ha2 0 (by decide)).2.2.symm.trans k1_l0
  have k2_i1 : ρ2.i 1 = _ := (ha2 1 (by decide)).1.symm.trans k1_i1
  have k2_i2 : ρ2.i 2 = _ := (ha2 2 (by decide)).1.symm.trans k1_i2
  have k2_l3 : ρ2.l 3 = _ := (ha2 3 (by decide)).2.2.symm.trans k1_l3
  simp only [k2_l0, k2_i1, k2_i2, k2_l3, k2_i4, insAt_mk, gt_rowsD, rowsI_len, -eq_self]
  refine ⟨fun c4 => ?_, fun c4 => ?_⟩
  refine ⟨fun c5 => ?_, fun c5 => ?_⟩
  · exact absurd (of_decide_eq_true c5) (by omega)
  refine ⟨fun c6 => ?_, fun c6 => ?_⟩
  · have hk2 : k < (jatN l i n).length := Int.ofNat_lt.1 (of_decide_eq_true c4)
    rw [addN hk2 (by omega)]
    exact ⟨⟨k + 1, rfl, hk2, fun j hj => by by_cases e : j = k; exact e ▸ of_decide_eq_true c6; exact hlo j (by omega)⟩, by show (jatN l i n).length - (((k + 1 : Nat) : Int)).toNat < (jatN l i n).length - ((k : Int)).toNat; omega⟩
  refine ⟨fun c7 => ?_, fun c7 => ?_⟩
  · have hk2 : k < (jatN l i n).length := Int.ofNat_lt.1 (of_decide_eq_true c4)
    have hki : kPos (jatN l i n) (gt l (n : Int) 0) = k := kPos_is hlo hk (.inr (of_decide_eq_false c6))
    exact ⟨⟨n + 1, (by rw [addN hn2 hm, jatN_y hon, insJ_y (hki ▸ hk2) (by rw [hki]; exact eqI c7)]), hn2⟩, by rw [addN hn2 hm]; show l.length - (((n + 1 : Nat) : Int)).toNat < l.length - ((n : Int)).toNat; omega⟩
  refine ⟨fun c8 => ?_, fun c8 => ?_⟩
  · exact absurd (of_decide_eq_true c8) (by omega)
  refine ⟨fun c9 => ?_, fun c9 => ?_⟩
  refine ⟨fun c10 => ?_, fun c10 => ?_⟩
  refine ⟨fun c11 => ?_, fun c11 => ?_⟩
  · have hk2 : k < (jatN l i n).length := Int.ofNat_lt.1 (of_decide_eq_true c4)
    have hki : kPos (jatN l i n) (gt l (n : Int) 0) = k := kPos_is hlo hk (.inr (of_decide_eq_false c6))
    exact ⟨⟨n + 1, (by rw [addN hn2 hm, jatN_y hon, insJ_n (fun h => neI c7 (by rw [← hki]; exact h.2)), hki, ← rowsI_ins]), hn2⟩, by rw [addN hn2 hm]; show l.length - (((n + 1 : Nat) : Int)).toNat < l.length - ((n : Int)).toNat; omega⟩
  · exact absurd (of_decide_eq_false c11) (by simp [rowsI_len] <;> omega)
  · exact absurd (of_decide_eq_false c10) (by simp [rowsI_len] <;> omega)
  · exact absurd (of_decide_eq_false c9) (by simp [rowsI_len] <;> omega)
  refine ⟨fun c12 => ?_, fun c12 => ?_⟩
  · exact absurd (of_decide_eq_true c12) (by omega)
  refine ⟨fun c13 => ?_, fun c13 => ?_⟩
  · exact absurd (of_decide_eq_true c13) (by omega)
  refine ⟨fun c14 => ?_, fun c14 => ?_⟩
  refine ⟨fun c15 => ?_, fun c15 => ?_⟩
  refine ⟨fun c16 => ?_, fun c16 => ?_⟩
  · have hki : kPos (jatN l i n) (gt l (n : Int) 0) = k := kPos_is hlo hk (.inl (by have := of_decide_eq_false c4; omega))
    exact ⟨⟨n + 1, (by rw [addN hn2 hm, jatN_y hon, insJ_n (fun h => by have := of_decide_eq_false c4; have := h.1; omega), hki, ← rowsI_ins]), hn2⟩, by rw [addN hn2 hm]; show l.length - (((n + 1 : Nat) : Int)).toNat < l.length - ((n : Int)).toNat; omega⟩
  · exact absurd (of_decide_eq_false c16) (by simp [rowsI_len] <;> omega)
  · exact absurd (of_decide_eq_false c15) (by simp [rowsI_len] <;> omega)
  · exact absurd (of_decide_eq_false c14) (by simp [rowsI_len] <;> omega)
  · obtain rfl : n = l.length := by have := of_decide_eq_false c0; omega
    rw [jat_eq]; rfl
theorem sK_jat {sp : Spec} {key : Nat} (hF : sp.F key = sF_jat) (hP : sp.pre key = sQ_jat) : SmOk Try.prog sp (sM_jat key) :=
  fun_ok (s := sM_jat key) hF hP (by kernel_rfl) tysok_SpJ (sm0) Try.func43 (fnc Try.func70 fn0) sR_jat (.inr (fun xs h L hL => by unfold sQ_jat at h; split at h <;> first | exact h.elim | (simp at hL; subst hL; exact Nat.le_trans h (by decide)))) (fun x0 gx0 x1 gx1 hp ρ g => sX_jat x0 gx0 x1 gx1 hp ρ g)
def sM_jmost (key : Nat) : Sm := ⟨45, key, [.one (.sl [some .i64, some .i64, some .i64, none] 47)], [.one (.int .i64)], false⟩
def sV_jmost (l : List (List Int)) : List Dt := [.z (sMost l)]
def sF_jmost : List Dt → List Dt
  | [.l x0] => sV_jmost x0
  | _ => []
def sT_jmost : Tr :=
(.loop 0 1 [.int .i64, .int .i64] (.cons (.lit 0) (.cons (.lit 0) .nil))
(.br (.lt (.var 1) (.lit 64))
(.call 0 ([.sl [some .i64] 3]) (.consl (.lvar 0) (.cons (.var 1) .nil)) 3
(.next 0 (.cons (.bin .add .i64 (.var 1) (.lit 1)) (.cons (.mx (.var 2) (.len (.lvar 3))) .nil))))
(.leaf (.cons (.var 2) .nil))))
def sP_jmost : Spec := ⟨fun k => match k with | 0 => sF_jat | _ => fun _ => [], fun k => match k with | 0 => sQ_jat | _ => fun _ => True⟩
set_option maxRecDepth 100000 in
theorem sR_jmost : treeIs tys_SpJ [sM_jat 0] [] [(3, [.tmpI 4 .i64, .tmpI 3 .i64, .top 5, .top 6, .top 9, .top 10, .top 11, .top 12, .top 13, .top 14, .top 7, .top 8])] [] 200 Try.f45 [.one (.sl [some .i64, some .i64, some .i64, none] 47)] [.one (.int .i64)] false [.list [some .i64, some .i64, some .i64, none]] sT_jmost := ⟨by kernel_rfl, by kernel_rfl, by kernel_rfl⟩
def sQ_jmost : List Dt → Prop
  | [.l x0] => let f (l : List (List Int)) : Prop := l.length ≤ 100; f x0
  | _ => False
set_option maxRecDepth 100000 in
set_option maxHeartbeats 8000000 in
theorem sX_jmost (l : List (List Int)) (hl : RowsIn [some .i64, some .i64, some .i64, none] l) (hp : sQ_jmost [.l l]) (ρ : Env) (g : varsD ρ 0 [.list [some .i64, some .i64, some .i64, none]] = [.l l]) : sT_jmost.asks sP_jmost (fun ρ e => e.D ρ = sF_jmost [.l l]) ρ fun _ _ => False := by
  simp only [sQ_jmost, b2i_one, Ins.eta, Prog.eta, insAt_mk, Span.eta, spanAt_mk] at hp
  have keepg := g
  simp only [varsD, varD, List.cons.injEq, Dt.z.injEq, Dt.l.injEq, b2i_eq_iff, Nat.reduceAdd, and_true] at g
  simp only [sT_jmost, sP_jmost, sF_jat, sV_jat, sF_jmost, sV_jmost, sQ_jat, Tr.asks, upd_same, okDs, okD, eqs, E.I, E.B, E.L, E.R, E.D, E.vs, dI, dB, dL, varD, varsD, List.getElem?_cons_zero, List.getElem?_cons_succ, List.cons_append, List.nil_append, Nat.zero_add, Nat.add_zero, Nat.reduceAdd, and_true, true_and, b2i_one, -eq_self, Ins.eta, Prog.eta, insAt_mk, Span.eta, spanAt_mk, g]
  have k0_l0 : ρ.l 0 = l := g
  have hm : l.length ≤ maxLen := Nat.le_trans hp (by decide)
  refine ⟨fun ds => ∃ k : Nat, ds = [.z (k : Int), .z (sMostN l k)] ∧ k ≤ 64, fun ds => 64 - (dI ds 0).toNat, ⟨0, rfl, Nat.zero_le _⟩, ?_⟩
  intro ρ1 ha1 _ hi1
  obtain ⟨k, hds, hk⟩ := hi1
  simp only [List.cons.injEq, Dt.z.injEq, Dt.l.injEq, b2i_eq_iff, and_true] at hds
  obtain ⟨k1_i1, k1_i2⟩ := hds
  have k1_l0 : ρ1.l 0 = _ := (ha1 0 (by decide)).2.2.symm.trans k0_l0
  simp only [k1_l0, k1_i1, k1_i2, insAt_mk, -eq_self]
  refine ⟨fun c0 => ?_, fun c0 => ?_⟩
  refine ⟨?_, ?_⟩
  · exact hp
  intro e; (try simp only [e, Ins.eta, Prog.eta, insAt_mk, Span.eta, spanAt_mk, -eq_self]); clear e
  · have hk2 : k < 64 := Int.ofNat_lt.1 (of_decide_eq_true c0)
    rw [addN hk2 (by decide)]
    exact ⟨⟨k + 1, rfl, hk2⟩, by show 64 - (((k + 1 : Nat) : Int)).toNat < 64 - ((k : Int)).toNat; omega⟩
  · obtain rfl : k = 64 := by have := of_decide_eq_false c0; omega
    rfl
theorem sK_jmost {sp : Spec} {key : Nat} (hF : sp.F key = sF_jmost) (hP : sp.pre key = sQ_jmost) : SmOk Try.prog sp (sM_jmost key) :=
  fun_ok (s := sM_jmost key) hF hP (by kernel_rfl) tysok_SpJ (smc (sK_jat rfl rfl) sm0) Try.func45 fn0 sR_jmost (.inr (fun xs h L hL => by unfold sQ_jmost at h; split at h <;> first | exact h.elim | (simp at hL; subst hL; exact Nat.le_trans h (by decide)))) (fun x0 gx0 hp ρ g => sX_jmost x0 gx0 hp ρ g)
end Go.Proofs.Ytmkaphfdgdkaoaa
