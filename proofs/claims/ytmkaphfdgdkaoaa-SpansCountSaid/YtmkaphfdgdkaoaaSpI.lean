/- Contracts of spans.At and Most. -/
import Derived.Test.YtmkaphfdgdkaoaaSpH
import Derived.Test.YtmkaphfdgdkaoaaSpF
import Derived.Test.YtmkaphfdgdkaoaaProg
import Derived.Laws.Externs
set_option linter.unusedVariables false
set_option linter.unusedSimpArgs false
namespace Go.Proofs.Ytmkaphfdgdkaoaa
open Go.RowKit Go.ChangeShapes Go.WideShapes

def tys_SpI : List (Nat × TI) := [(3, ⟨false, 1, [.int .i64 (.lit 0)], [], none, some .i64, false, false, none, 8, false, none, false⟩),
 (4, ⟨false, 1, [.bool (.tt false)], [], none, none, false, true, none, 1, false, none, false⟩),
 (27, ⟨false, 1, [.nsl], [], none, none, false, false, some 3, 24, false, none, false⟩),
 (42, ⟨false, 1, [.nsl], [], none, none, false, false, some 47, 24, false, none, false⟩),
 (47, ⟨true, 4, [.int .i64 (.lit 0), .int .i64 (.lit 0), .int .i64 (.lit 0), .bool (.tt false)], [(0, 3), (1, 3), (2, 3), (3, 4)], none, none, true, false, none, 32, false, none, false⟩),
 (88, ⟨false, 1, [.nmp], [], none, none, false, false, none, 8, false, some (3, 4), false⟩)]
set_option maxRecDepth 100000 in
theorem tysck_SpI : (tys_SpI.all fun p => ckTI Try.prog p.1 p.2) = true := by kernel_rfl
theorem tyseq_SpI : (tys_SpI.all fun p => !p.2.eqok || ((Nat.beq p.1 47 && kindsC p.2.zero z_Span))) = true := by kernel_rfl
theorem tyskn_SpI : (tys_SpI.all fun p => !p.2.keyok) = true := by kernel_rfl
theorem tysok_SpI : ∀ t i, (t, i) ∈ tys_SpI → TIok Try.prog t i := by
  intro t i h
  refine TIok_of (all_at (f := ckTI Try.prog) tysck_SpI h) (fun he => ?_) (fun he => ?_) (fun he => ?_)
  · have h1 := List.all_eq_true.1 tyseq_SpI (t, i) h
    simp only [he, Bool.not_true, Bool.false_or, Bool.or_eq_true, Bool.and_eq_true] at h1
    have hs := h1.2
    obtain rfl := Nat.eq_of_beq_eq_true h1.1
    exact fun vs us hv hu => eq_Span vs us (kindsV_of hs hv) (kindsV_of hs hu)
  · have h1 := List.all_eq_true.1 tyseq_SpI (t, i) h
    simp only [he, Bool.not_true, Bool.false_or, Bool.or_eq_true, Bool.and_eq_true] at h1
    have hs := h1.2
    obtain rfl := Nat.eq_of_beq_eq_true h1.1
    exact grd_Span
  · have h1 := List.all_eq_true.1 tyskn_SpI (t, i) h
    simp [he] at h1
def sM_sat (key : Nat) : Sm := ⟨39, key, [.one (.sl [some .i64, some .i64, some .i64, none] 47), .one (.int .i64)], [.one (.sl [some .i64] 3)], false⟩
def sV_sat (l : List (List Int)) (i : Int) : List Dt := [.l (sAt l i)]
def sF_sat : List Dt → List Dt
  | [.l x0, .z x1] => sV_sat x0 x1
  | _ => []
def sT_sat : Tr :=
(.loop 0 2 [.int .i64, .list [some .i64], .list [some .i64, none]] (.cons (.lit 0) (.consl .lnil (.consl .lnil .nil)))
(.br (.lt (.var 2) (.len (.lvar 0)))
(.br (.lt (.var 2) (.lit 0))
.panic
(.br (.lt (.var 1) (.get (.lvar 0) (.var 2) 1))
(.next 0 (.cons (.bin .add .i64 (.var 2) (.lit 1)) (.consl (.lvar 3) (.consl (.lvar 4) .nil))))
(.br (.lt (.get (.lvar 0) (.var 2) 2) (.var 1))
(.next 0 (.cons (.bin .add .i64 (.var 2) (.lit 1)) (.consl (.lvar 3) (.consl (.lvar 4) .nil))))
(.br (.getb (.lvar 4) (.mix (.lvar 4) (.cons (.get (.lvar 0) (.var 2) 0) .nil)) 1)
(.next 0 (.cons (.bin .add .i64 (.var 2) (.lit 1)) (.consl (.lvar 3) (.consl (.lvar 4) .nil))))
(.br (.lt (.mix (.lvar 4) (.cons (.get (.lvar 0) (.var 2) 0) .nil)) (.len (.lvar 4)))
(.br (.lt (.len (.lvar 3)) (.lit 1073741824))
(.next 0 (.cons (.bin .add .i64 (.var 2) (.lit 1)) (.consl (.lapp (.lvar 3) (.cons (.get (.lvar 0) (.var 2) 0) .nil)) (.consl (.lput (.lvar 4) (.mix (.lvar 4) (.cons (.get (.lvar 0) (.var 2) 0) .nil)) (.cons (.get (.lvar 0) (.var 2) 0) (.consb (.tt true) .nil))) .nil))))
.panic)
(.br (.lt (.len (.lvar 4)) (.lit 1073741824))
(.br (.lt (.len (.lvar 3)) (.lit 1073741824))
(.next 0 (.cons (.bin .add .i64 (.var 2) (.lit 1)) (.consl (.lapp (.lvar 3) (.cons (.get (.lvar 0) (.var 2) 0) .nil)) (.consl (.lapp (.lvar 4) (.cons (.get (.lvar 0) (.var 2) 0) (.consb (.tt true) .nil))) .nil))))
.panic)
(.stuck 130)))))))
(.call 0 [.sl [some .i64] 3] (.consl (.lvar 3) .nil) 5
(.leaf (.consl (.lvar 5) .nil)))))
def sP_sat : Spec := ⟨fun k => match k with | 0 => sF_ssort | _ => fun _ => [], fun k => match k with | 0 => sQ_ssort | _ => fun _ => True⟩
set_option maxRecDepth 100000 in
theorem sR_sat : treeIs tys_SpI [sM_ssort 0] [] [(3, [.tmpI 11 .i64, .tmpS 4 [some .i64] 3, .row 1, .top 12, .top 13, .top 14, .top 7, .top 15, .top 16, .top 17, .top 18, .top 19, .top 20, .top 21, .top 22, .top 23, .top 24, .top 25, .top 26, .top 27, .top 28, .top 29, .top 30, .top 31, .top 32, .top 33, .top 34, .top 35, .top 36, .top 37, .top 38, .top 39, .top 40])] [] 200 Try.f39 [.one (.sl [some .i64, some .i64, some .i64, none] 47), .one (.int .i64)] [.one (.sl [some .i64] 3)] false [.list [some .i64, some .i64, some .i64, none], .int .i64] sT_sat := ⟨by kernel_rfl, by kernel_rfl, by kernel_rfl⟩
def sQ_sat : List Dt → Prop
  | [.l x0, .z x1] => let f (l : List (List Int)) (i : Int) : Prop := l.length ≤ 100; f x0 x1
  | _ => False
set_option maxRecDepth 100000 in
set_option maxHeartbeats 8000000 in
theorem sX_sat (l : List (List Int)) (hl : RowsIn [some .i64, some .i64, some .i64, none] l) (i : Int) (hi : inK .i64 i = true) (hp : sQ_sat [.l l, .z i]) (ρ : Env) (g : varsD ρ 0 [.list [some .i64, some .i64, some .i64, none], .int .i64] = [.l l, .z i]) : sT_sat.asks sP_sat (fun ρ e => e.D ρ = sF_sat [.l l, .z i]) ρ fun _ _ => False := by
  simp only [sQ_sat, b2i_one, Ins.eta, Prog.eta, insAt_mk, Span.eta, spanAt_mk] at hp
  have keepg := g
  simp only [varsD, varD, List.cons.injEq, Dt.z.injEq, Dt.l.injEq, b2i_eq_iff, Nat.reduceAdd, and_true] at g
  simp only [sT_sat, sP_sat, sF_ssort, sF_sat, sV_sat, sQ_ssort, Tr.asks, upd_same, okDs, okD, eqs, E.I, E.B, E.L, E.R, E.D, E.vs, dI, dB, dL, varD, varsD, List.getElem?_cons_zero, List.getElem?_cons_succ, List.cons_append, List.nil_append, Nat.zero_add, Nat.add_zero, Nat.reduceAdd, and_true, true_and, b2i_one, -eq_self, Ins.eta, Prog.eta, insAt_mk, Span.eta, spanAt_mk, g]
  obtain ⟨k0_l0, k0_i1⟩ := g
  have hm : l.length ≤ maxLen := Nat.le_trans hp (by decide)
  refine ⟨fun ds => ∃ n : Nat, ds = [.z (n : Int), .l (rowsI (atN l i n)), .l (rows1 (atN l i n))] ∧ n ≤ l.length, fun ds => l.length - (dI ds 0).toNat, ⟨0, rfl, Nat.zero_le _⟩, ?_⟩
  intro ρ1 ha1 _ hi1
  obtain ⟨n, hds, hn⟩ := hi1
  simp only [List.cons.injEq, Dt.z.injEq, Dt.l.injEq, b2i_eq_iff, and_true] at hds
  obtain ⟨k1_i2, k1_l3, k1_l4⟩ := hds
  have k1_l0 : ρ1.l 0 = _ := (ha1 0 (by decide)).2.2.symm.trans k0_l0
  have k1_i1 : ρ1.i 1 = _ := (ha1 1 (by decide)).1.symm.trans k0_i1
  simp only [k1_l0, k1_i1, k1_i2, k1_l3, k1_l4, insAt_mk, -eq_self]
  refine ⟨fun c0 => ?_, fun c0 => ?_⟩
  refine ⟨fun c1 => ?_, fun c1 => ?_⟩
  · exact absurd (of_decide_eq_true c1) (by omega)
  refine ⟨fun c2 => ?_, fun c2 => ?_⟩
  · have hn2 : n < l.length := Int.ofNat_lt.1 (of_decide_eq_true c0)
    have hal := atN_len l i n
    exact ⟨⟨n + 1, (by rw [addN hn2 hm, atN_n (fun h => by rw [onS_no1 c2] at h; exact Bool.noConfusion h.1)]; try rfl), hn2⟩, by rw [addN hn2 hm]; show l.length - (((n + 1 : Nat) : Int)).toNat < l.length - ((n : Int)).toNat; omega⟩
  refine ⟨fun c3 => ?_, fun c3 => ?_⟩
  · have hn2 : n < l.length := Int.ofNat_lt.1 (of_decide_eq_true c0)
    have hal := atN_len l i n
    exact ⟨⟨n + 1, (by rw [addN hn2 hm, atN_n (fun h => by rw [onS_no2 c3] at h; exact Bool.noConfusion h.1)]; try rfl), hn2⟩, by rw [addN hn2 hm]; show l.length - (((n + 1 : Nat) : Int)).toNat < l.length - ((n : Int)).toNat; omega⟩
  refine ⟨fun c4 => ?_, fun c4 => ?_⟩
  · have hn2 : n < l.length := Int.ofNat_lt.1 (of_decide_eq_true c0)
    have hal := atN_len l i n
    rw [known_in] at c4
    exact ⟨⟨n + 1, (by rw [addN hn2 hm, atN_n (fun h => h.2 (of_decide_eq_true c4))]; try rfl), hn2⟩, by rw [addN hn2 hm]; show l.length - (((n + 1 : Nat) : Int)).toNat < l.length - ((n : Int)).toNat; omega⟩
  refine ⟨fun c5 => ?_, fun c5 => ?_⟩
  refine ⟨fun c6 => ?_, fun c6 => ?_⟩
  · have hn2 : n < l.length := Int.ofNat_lt.1 (of_decide_eq_true c0)
    have hal := atN_len l i n
    rw [known_in] at c4
    exact absurd (mix_in.1 (of_decide_eq_true c5)) (of_decide_eq_false c4)
  · have hal := atN_len l i n
    exact absurd (of_decide_eq_false c6) (by have e1 := rowsI_len (atN l i n); have e2 := rows1_len (atN l i n); omega)
  refine ⟨fun c7 => ?_, fun c7 => ?_⟩
  refine ⟨fun c8 => ?_, fun c8 => ?_⟩
  · have hn2 : n < l.length := Int.ofNat_lt.1 (of_decide_eq_true c0)
    have hal := atN_len l i n
    rw [known_in] at c4
    exact ⟨⟨n + 1, (by rw [addN hn2 hm, atN_y (onS_yes c2 c3) (of_decide_eq_false c4), ← rowsI_app, ← rows1_app]; try rfl), hn2⟩, by rw [addN hn2 hm]; show l.length - (((n + 1 : Nat) : Int)).toNat < l.length - ((n : Int)).toNat; omega⟩
  · have hal := atN_len l i n
    exact absurd (of_decide_eq_false c8) (by have e1 := rowsI_len (atN l i n); have e2 := rows1_len (atN l i n); omega)
  · have hal := atN_len l i n
    exact absurd (of_decide_eq_false c7) (by have e1 := rowsI_len (atN l i n); have e2 := rows1_len (atN l i n); omega)
  refine ⟨?_, ?_⟩
  · have hal := atN_len l i n
    exact ⟨rowsI_in (atN_in hl i n hn) (by omega), by rw [rowsI_len]; omega⟩
  intro e; rw [map_rowsI] at e; (try simp only [e, Ins.eta, Prog.eta, insAt_mk, Span.eta, spanAt_mk, -eq_self]); clear e
  · obtain rfl : n = l.length := by have := of_decide_eq_false c0; omega
    rfl
theorem sK_sat {sp : Spec} {key : Nat} (hF : sp.F key = sF_sat) (hP : sp.pre key = sQ_sat) : SmOk Try.prog sp (sM_sat key) :=
  fun_ok (s := sM_sat key) hF hP (by kernel_rfl) tysok_SpI (smc (sK_ssort rfl rfl) sm0) Try.func39 fn0 sR_sat (.inr (fun xs h L hL => by unfold sQ_sat at h; split at h <;> first | exact h.elim | (simp at hL; subst hL; exact Nat.le_trans h (by decide)))) (fun x0 gx0 x1 gx1 hp ρ g => sX_sat x0 gx0 x1 gx1 hp ρ g)
def sM_smost (key : Nat) : Sm := ⟨40, key, [.one (.sl [some .i64, some .i64, some .i64, none] 47)], [.one (.int .i64)], false⟩
def sV_smost (l : List (List Int)) : List Dt := [.z (sMost l)]
def sF_smost : List Dt → List Dt
  | [.l x0] => sV_smost x0
  | _ => []
def sT_smost : Tr :=
(.loop 0 1 [.int .i64, .int .i64] (.cons (.lit 0) (.cons (.lit 0) .nil))
(.br (.lt (.var 1) (.lit 64))
(.call 0 ([.sl [some .i64] 3]) (.consl (.lvar 0) (.cons (.var 1) .nil)) 3
(.next 0 (.cons (.bin .add .i64 (.var 1) (.lit 1)) (.cons (.mx (.var 2) (.len (.lvar 3))) .nil))))
(.leaf (.cons (.var 2) .nil))))
def sP_smost : Spec := ⟨fun k => match k with | 0 => sF_sat | _ => fun _ => [], fun k => match k with | 0 => sQ_sat | _ => fun _ => True⟩
set_option maxRecDepth 100000 in
theorem sR_smost : treeIs tys_SpI [sM_sat 0] [] [(2, [.tmpI 4 .i64, .tmpI 2 .i64, .top 5, .top 6, .top 3, .top 7, .top 8, .top 9, .top 10, .top 11, .top 12, .top 13])] [] 200 Try.f40 [.one (.sl [some .i64, some .i64, some .i64, none] 47)] [.one (.int .i64)] false [.list [some .i64, some .i64, some .i64, none]] sT_smost := ⟨by kernel_rfl, by kernel_rfl, by kernel_rfl⟩
def sQ_smost : List Dt → Prop
  | [.l x0] => let f (l : List (List Int)) : Prop := l.length ≤ 100; f x0
  | _ => False
set_option maxRecDepth 100000 in
set_option maxHeartbeats 8000000 in
theorem sX_smost (l : List (List Int)) (hl : RowsIn [some .i64, some .i64, some .i64, none] l) (hp : sQ_smost [.l l]) (ρ : Env) (g : varsD ρ 0 [.list [some .i64, some .i64, some .i64, none]] = [.l l]) : sT_smost.asks sP_smost (fun ρ e => e.D ρ = sF_smost [.l l]) ρ fun _ _ => False := by
  simp only [sQ_smost, b2i_one, Ins.eta, Prog.eta, insAt_mk, Span.eta, spanAt_mk] at hp
  have keepg := g
  simp only [varsD, varD, List.cons.injEq, Dt.z.injEq, Dt.l.injEq, b2i_eq_iff, Nat.reduceAdd, and_true] at g
  simp only [sT_smost, sP_smost, sF_sat, sV_sat, sF_smost, sV_smost, sQ_sat, Tr.asks, upd_same, okDs, okD, eqs, E.I, E.B, E.L, E.R, E.D, E.vs, dI, dB, dL, varD, varsD, List.getElem?_cons_zero, List.getElem?_cons_succ, List.cons_append, List.nil_append, Nat.zero_add, Nat.add_zero, Nat.reduceAdd, and_true, true_and, b2i_one, -eq_self, Ins.eta, Prog.eta, insAt_mk, Span.eta, spanAt_mk, g]
  have k0_l0 : ρ.l 0 = l := g
  have hm : l.length ≤ maxLen := Nat.le_trans hp (by decide)
  refine ⟨fun ds => ∃ k : Nat, ds = [.z (k : Int), .z (sMostN l k)] ∧ k ≤ 64, fun ds => 64 - (dI ds 0).toNat, ⟨0, rfl, Nat.zero_le _⟩, ?_⟩
  intro ρ1 ha1 _ hi1
  obtain ⟨k, hds, hk⟩ := hi1
  simp only [List.cons.injEq, Dt.z.injEq, Dt.l.injEq, b2i_eq_iff, and_true] at hds
  obtain ⟨k1_i1, k1_i2⟩ := hds
  have k1_l0 : ρ1.l 0 = _ := (ha1 0 (by decide)).2.2.symm.trans k0_l0
  simp only [k1_l0, k1_i1, k1_i2, insAt_mk, -eq_self]
  refine ⟨fun c0 => ?_, fun c0 => ?_⟩
  refine ⟨?_, ?_⟩
  · exact hp
  intro e; (try simp only [e, Ins.eta, Prog.eta, insAt_mk, Span.eta, spanAt_mk, -eq_self]); clear e
  · have hk2 : k < 64 := Int.ofNat_lt.1 (of_decide_eq_true c0)
    rw [addN hk2 (by decide)]
    exact ⟨⟨k + 1, rfl, hk2⟩, by show 64 - (((k + 1 : Nat) : Int)).toNat < 64 - ((k : Int)).toNat; omega⟩
  · obtain rfl : k = 64 := by have := of_decide_eq_false c0; omega
    rfl
theorem sK_smost {sp : Spec} {key : Nat} (hF : sp.F key = sF_smost) (hP : sp.pre key = sQ_smost) : SmOk Try.prog sp (sM_smost key) :=
  fun_ok (s := sM_smost key) hF hP (by kernel_rfl) tysok_SpI (smc (sK_sat rfl rfl) sm0) Try.func40 fn0 sR_smost (.inr (fun xs h L hL => by unfold sQ_smost at h; split at h <;> first | exact h.elim | (simp at hL; subst hL; exact Nat.le_trans h (by decide)))) (fun x0 gx0 hp ρ g => sX_smost x0 gx0 hp ρ g)
end Go.Proofs.Ytmkaphfdgdkaoaa
