/- Contract of live.Run, by the symbolic run. -/
import Derived.Test.YtmkaphfdgdkaoaaLiC
import Derived.Test.YtmkaphfdgdkaoaaLiE
import Derived.Test.YtmkaphfdgdkaoaaProg
import Derived.Laws.Externs
set_option linter.unusedVariables false
set_option linter.unusedSimpArgs false
namespace Go.Proofs.Ytmkaphfdgdkaoaa
open Go.RowKit Go.ChangeShapes Go.WideShapes

def z_Pair : List C := [.int .i64 (.lit 0), .int .i64 (.lit 0)]
theorem grd_Pair : Try.prog.eqGuardType Try.prog.depth 67 = false := by kernel_rfl
theorem cells67_Pair : Try.prog.cellsOf 67 = 2 := by kernel_rfl
theorem cells3_Pair : Try.prog.cellsOf 3 = 1 := by kernel_rfl
set_option maxRecDepth 100000 in
theorem kl_Pair (vs : List Value) (hv : kindsV vs z_Pair) : Try.prog.keyLits 6 67 vs = some (litsOf vs) := by
  obtain ⟨x0, _, rfl, g0, hv⟩ := kindsV_int hv
  obtain ⟨x1, _, rfl, g1, hv⟩ := kindsV_int hv
  obtain rfl := kindsV_nil hv
  simp [Program.keyLits, List.range, List.range.loop, Try.underlying67, Try.underlying3, cells67_Pair, cells3_Pair, inK_wf, litsOf, g0, g1]
theorem fm_Pair (vs : List Value) (hv : kindsV vs z_Pair) : (Value.agg vs.toArray).formed Try.prog 67 = true := by
  obtain ⟨x0, _, rfl, g0, hv⟩ := kindsV_int hv
  obtain ⟨x1, _, rfl, g1, hv⟩ := kindsV_int hv
  obtain rfl := kindsV_nil hv
  kernel_rfl
theorem eq_Pair (vs us : List Value) (hv : kindsV vs z_Pair) (hu : kindsV us z_Pair) (w : World) : (Op.equal 67 (.agg vs.toArray) (.agg us.toArray)).run Try.prog w = .ok (eqVs vs us) w :=
  eq_of_keys (by kernel_rfl) fm_Pair 6 kl_Pair vs us hv hu w
theorem key_Pair (vs : List Value) (hv : kindsV vs z_Pair) (b : Bool) (w : World) : (Instr.checkKey b 10000 67 (.agg vs.toArray)).run Try.prog w = .ok () w :=
  run_checkKey_deep b 9994 6 67 (by kernel_rfl) w 6 (.agg vs.toArray) _ (fm_Pair vs hv) (kl_Pair vs hv)
def tys_LiF : List (Nat × TI) := [(3, ⟨false, 1, [.int .i64 (.lit 0)], [], none, some .i64, false, false, none, 8, false, none, false⟩),
 (4, ⟨false, 1, [.bool (.tt false)], [], none, none, false, true, none, 1, false, none, false⟩),
 (22, ⟨false, 1, [.nsl], [], none, none, false, false, some 33, 24, false, none, false⟩),
 (24, ⟨true, 2, [.int .i64 (.lit 0), .nsl], [(0, 3), (1, 22)], none, none, false, false, none, 32, false, none, false⟩),
 (27, ⟨false, 1, [.nsl], [], none, none, false, false, some 3, 24, false, none, false⟩),
 (28, ⟨false, 1, [.int .i64 (.lit 0)], [], none, some .i64, false, false, none, 8, false, none, false⟩),
 (31, ⟨false, 1, [.int .i8 (.lit 0)], [], none, some .i8, false, false, none, 1, false, none, false⟩),
 (33, ⟨true, 9, [.int .i8 (.lit 0), .int .i8 (.lit 0), .int .i8 (.lit 0), .int .i8 (.lit 0), .bool (.tt false), .int .i8 (.lit 0), .int .i8 (.lit 0), .int .i64 (.lit 0), .int .i64 (.lit 0)], [(0, 31), (1, 31), (2, 31), (3, 31), (4, 4), (5, 31), (6, 31), (7, 3), (8, 3)], none, none, true, false, none, 24, false, none, false⟩),
 (64, ⟨false, 1, [.nmp], [], none, none, false, false, none, 8, false, some (67, 4), false⟩),
 (67, ⟨true, 2, [.int .i64 (.lit 0), .int .i64 (.lit 0)], [], some (2, 3), none, true, false, none, 16, false, none, true⟩)]
set_option maxRecDepth 100000 in
theorem tysck_LiF : (tys_LiF.all fun p => ckTI Try.prog p.1 p.2) = true := by kernel_rfl
theorem tyseq_LiF : (tys_LiF.all fun p => !p.2.eqok || ((Nat.beq p.1 33 && kindsC p.2.zero z_Ins) || (Nat.beq p.1 67 && kindsC p.2.zero z_Pair))) = true := by kernel_rfl
theorem tyskn_LiF : (tys_LiF.all fun p => !p.2.keyok || ((Nat.beq p.1 67 && kindsC p.2.zero z_Pair))) = true := by kernel_rfl
theorem tysok_LiF : ∀ t i, (t, i) ∈ tys_LiF → TIok Try.prog t i := by
  intro t i h
  refine TIok_of (all_at (f := ckTI Try.prog) tysck_LiF h) (fun he => ?_) (fun he => ?_) (fun he => ?_)
  · have h1 := List.all_eq_true.1 tyseq_LiF (t, i) h
    simp only [he, Bool.not_true, Bool.false_or, Bool.or_eq_true, Bool.and_eq_true] at h1
    rcases h1 with h1 | h1
    · have hs := h1.2
      obtain rfl := Nat.eq_of_beq_eq_true h1.1
      exact fun vs us hv hu => eq_Ins vs us (kindsV_of hs hv) (kindsV_of hs hu)
    · have hs := h1.2
      obtain rfl := Nat.eq_of_beq_eq_true h1.1
      exact fun vs us hv hu => eq_Pair vs us (kindsV_of hs hv) (kindsV_of hs hu)
  · have h1 := List.all_eq_true.1 tyseq_LiF (t, i) h
    simp only [he, Bool.not_true, Bool.false_or, Bool.or_eq_true, Bool.and_eq_true] at h1
    rcases h1 with h1 | h1
    · have hs := h1.2
      obtain rfl := Nat.eq_of_beq_eq_true h1.1
      exact grd_Ins
    · have hs := h1.2
      obtain rfl := Nat.eq_of_beq_eq_true h1.1
      exact grd_Pair
  · have h1 := List.all_eq_true.1 tyskn_LiF (t, i) h
    simp only [he, Bool.not_true, Bool.false_or, Bool.or_eq_true, Bool.and_eq_true] at h1
    have hs := h1.2
    obtain rfl := Nat.eq_of_beq_eq_true h1.1
    exact fun vs hv => key_Pair vs (kindsV_of hs hv)
def sM_lnext (key : Nat) : Sm := ⟨46, key, [.ptr kProg, .one (.int .i64)], [.one (.sl [some .i64] 3)], false⟩
def sV_lnext (p : Prog) (i : Int) : List Dt := [.l (lnext p i)]
def sF_lnext : List Dt → List Dt
  | [.z x0, .l x1, .z x2] => sV_lnext ⟨x0, x1⟩ x2
  | _ => []
def sT_lnext : Tr :=
(.br (.lt (.var 2) (.lit 0))
.panic
(.br (.lt (.var 2) (.len (.lvar 1)))
(.call 0 ([.int .i64] ++ [.bool]) (.cons (.var 2) (.cons (.get (.lvar 1) (.var 2) 0) (.cons (.get (.lvar 1) (.var 2) 1) (.cons (.get (.lvar 1) (.var 2) 2) (.cons (.get (.lvar 1) (.var 2) 3) (.consb (.getb (.lvar 1) (.var 2) 4) (.cons (.get (.lvar 1) (.var 2) 5) (.cons (.get (.lvar 1) (.var 2) 6) (.cons (.get (.lvar 1) (.var 2) 7) (.cons (.get (.lvar 1) (.var 2) 8) .nil)))))))))) 3
(.br (.eq (.get (.lvar 1) (.var 2) 0) (.lit 4))
(.br (.bvar 4)
(.leaf (.consl (.lapp .lnil (.cons (.var 3) .nil)) .nil))
(.leaf (.consl .lnil .nil)))
(.br (.eq (.get (.lvar 1) (.var 2) 0) (.lit 6))
(.br (.bvar 4)
(.leaf (.consl (.lapp .lnil (.cons (.var 3) .nil)) .nil))
(.leaf (.consl .lnil .nil)))
(.br (.bvar 4)
(.br (.eq (.var 3) (.bin .add .i64 (.var 2) (.lit 1)))
(.leaf (.consl (.lapp .lnil (.cons (.bin .add .i64 (.var 2) (.lit 1)) .nil)) .nil))
(.leaf (.consl (.lcat (.lapp .lnil (.cons (.mn (.var 3) (.bin .add .i64 (.var 2) (.lit 1))) .nil)) (.lapp .lnil (.cons (.mx (.var 3) (.bin .add .i64 (.var 2) (.lit 1))) .nil))) .nil)))
(.leaf (.consl (.lapp .lnil (.cons (.bin .add .i64 (.var 2) (.lit 1)) .nil)) .nil))))))
.panic))
def sP_lnext : Spec := ⟨fun k => match k with | 0 => sF_itgt | _ => fun _ => [], fun k => match k with | _ => fun _ => True⟩
set_option maxRecDepth 100000 in
theorem sR_lnext : treeIs tys_LiF [sM_itgt 0] [] [] [] 200 Try.f46 [.ptr kProg, .one (.int .i64)] [.one (.sl [some .i64] 3)] false [.int .i64, .list [some .i8, some .i8, some .i8, some .i8, none, some .i8, some .i8, some .i64, some .i64], .int .i64] sT_lnext := ⟨by kernel_rfl, by kernel_rfl, by kernel_rfl⟩
def sQ_lnext : List Dt → Prop
  | [.z x0, .l x1, .z x2] => let f (p : Prog) (i : Int) : Prop := (0 ≤ i ∧ i < p.l.length) ∧ p.l.length ≤ maxLen; f ⟨x0, x1⟩ x2
  | _ => False
set_option maxRecDepth 100000 in
set_option maxHeartbeats 8000000 in
theorem sX_lnext (p : Prog) (hp : Prog.ok p) (i : Int) (hi : inK .i64 i = true) (hp : sQ_lnext [.z p.ctx, .l p.l, .z i]) (ρ : Env) (g : varsD ρ 0 [.int .i64, .list [some .i8, some .i8, some .i8, some .i8, none, some .i8, some .i8, some .i64, some .i64], .int .i64] = [.z p.ctx, .l p.l, .z i]) : sT_lnext.asks sP_lnext (fun ρ e => e.D ρ = sF_lnext [.z p.ctx, .l p.l, .z i]) ρ fun _ _ => False := by
  simp only [sQ_lnext, b2i_one, Ins.eta, Prog.eta, insAt_mk] at hp
  simp only [varsD, varD, List.cons.injEq, Dt.z.injEq, Dt.l.injEq, b2i_eq_iff, Nat.reduceAdd, and_true] at g
  simp only [sT_lnext, sP_lnext, sF_itgt, sV_itgt, sF_lnext, sV_lnext, Tr.asks, upd_same, okDs, okD, eqs, E.I, E.B, E.L, E.R, E.D, E.vs, dI, dB, dL, varD, varsD, List.getElem?_cons_zero, List.getElem?_cons_succ, List.cons_append, List.nil_append, Nat.zero_add, Nat.add_zero, Nat.reduceAdd, and_true, true_and, b2i_one, -eq_self, Ins.eta, Prog.eta, insAt_mk, g]
  refine ⟨fun c0 => ?_, fun c0 => ?_⟩
  · have := of_decide_eq_true c0; omega
  refine ⟨fun c1 => ?_, fun c1 => ?_⟩
  intro e; (try simp only [e, Ins.eta, Prog.eta, insAt_mk, -eq_self]); clear e
  refine ⟨fun c2 => ?_, fun c2 => ?_⟩
  refine ⟨fun c3 => ?_, fun c3 => ?_⟩
  · unfold lnext; rw [if_neg (fun h => h.1 (eqI c2)), if_pos c3]; try rfl
  · unfold lnext; rw [if_neg (fun h => h.1 (eqI c2)), if_neg (by rw [c3]; simp)]; try rfl
  refine ⟨fun c4 => ?_, fun c4 => ?_⟩
  refine ⟨fun c5 => ?_, fun c5 => ?_⟩
  · unfold lnext; rw [if_neg (fun h => h.2 (eqI c4)), if_pos c5]; try rfl
  · unfold lnext; rw [if_neg (fun h => h.2 (eqI c4)), if_neg (by rw [c5]; simp)]; try rfl
  refine ⟨fun c6 => ?_, fun c6 => ?_⟩
  refine ⟨fun c7 => ?_, fun c7 => ?_⟩
  · unfold lnext; rw [if_pos ⟨neI c2, neI c4⟩, if_neg (fun h => h.2 (eqI c7))]; try rfl
  · unfold lnext; rw [if_pos ⟨neI c2, neI c4⟩, if_pos ⟨c6, neI c7⟩]; try rfl
  · unfold lnext; rw [if_pos ⟨neI c2, neI c4⟩, if_neg (fun h => absurd h.1 (by rw [c6]; simp))]; try rfl
  · have := of_decide_eq_false c1; omega
theorem sK_lnext {sp : Spec} {key : Nat} (hF : sp.F key = sF_lnext) (hP : sp.pre key = sQ_lnext) : SmOk Try.prog sp (sM_lnext key) :=
  fun_ok (s := sM_lnext key) hF hP (by kernel_rfl) tysok_LiF (smc (sK_itgt rfl) sm0) Try.func46 fn0 sR_lnext (.inr (fun xs h L hL => by unfold sQ_lnext at h; split at h <;> first | exact h.elim | (simp at hL; subst hL; exact h.2))) (fun x0 gx0 x1 gx1 x2 gx2 hp ρ g => sX_lnext ⟨x0, x1⟩ ⟨gx0, gx1⟩ x2 gx2 hp ρ g)
def sM_lrun (key : Nat) : Sm := ⟨15, key, [.agg kProg], [.one (.sl [some .i64] 3), .one (.sl [some .i64] 3), .one (.int .i64)], true⟩
def sV_lrun (pr : Prog) : List Dt := [.l ((lrun pr).1.1), .l ((lrun pr).1.2), .z ((lrun pr).2)]
def sF_lrun : List Dt → List Dt
  | [.z x0, .l x1] => sV_lrun ⟨x0, x1⟩
  | _ => []
def sT_lrun : Tr :=
(.call 0 ([.int .i64] ++ [.int .i64]) (.cons (.var 0) (.consl (.lvar 1) .nil)) 2
(.br (.eq (.var 3) (.lit 0))
(.br (.lt (.len (.lvar 1)) (.lit 1073741824))
(.loop 0 4 [.int .i64, .list [some .i64, some .i64, none]] (.cons (.lit 0) (.consl .lnil .nil))
(.br (.lt (.var 4) (.len (.lvar 1)))
(.call 1 ([.sl [some .i64] 3]) (.cons (.var 0) (.consl (.lvar 1) (.cons (.var 4) .nil))) 6
(.loop 1 7 [.int .i64, .list [some .i64, some .i64, none]] (.cons (.lit 0) (.consl (.lvar 5) .nil))
(.br (.lt (.var 7) (.len (.lvar 6)))
(.br (.lt (.var 7) (.lit 0))
.panic
(.br (.lt (.mix (.lvar 8) (.cons (.var 4) (.cons (.get (.lvar 6) (.var 7) 0) .nil))) (.len (.lvar 8)))
(.next 1 (.cons (.bin .add .i64 (.var 7) (.lit 1)) (.consl (.lput (.lvar 8) (.mix (.lvar 8) (.cons (.var 4) (.cons (.get (.lvar 6) (.var 7) 0) .nil))) (.cons (.var 4) (.cons (.get (.lvar 6) (.var 7) 0) (.consb (.tt true) .nil)))) .nil)))
(.br (.lt (.len (.lvar 8)) (.lit 1073741824))
(.next 1 (.cons (.bin .add .i64 (.var 7) (.lit 1)) (.consl (.lapp (.lvar 8) (.cons (.var 4) (.cons (.get (.lvar 6) (.var 7) 0) (.consb (.tt true) .nil)))) .nil)))
(.stuck 130))))
(.next 0 (.cons (.bin .add .i64 (.var 4) (.lit 1)) (.consl (.lvar 8) .nil))))))
(.loop 1 6 [.list [some .i64], .list [some .i64]] (.consl (.lrep (.len (.lvar 1)) (.cons (.lit 0) .nil)) (.consl (.lrep (.len (.lvar 1)) (.cons (.lit 0) .nil)) .nil))
(.loop 2 8 [.list [some .i64], .list [some .i64]] (.consl (.lvar 7) (.consl .lnil .nil))
(.br (.lt (.len (.lvar 9)) (.len (.lvar 5)))
(.any 10 (.and (.not (.lt (.var 10) (.lit 0))) (.and (.lt (.var 10) (.len (.lvar 5))) (.not (.lt (.mix (.lvar 9) (.cons (.var 10) .nil)) (.len (.lvar 9))))))
(.br (.lt (.get (.lvar 5) (.var 10) 0) (.lit 0))
.panic
(.br (.lt (.get (.lvar 5) (.var 10) 0) (.len (.lvar 8)))
(.br (.lt (.get (.lvar 5) (.var 10) 1) (.lit 0))
.panic
(.br (.lt (.get (.lvar 5) (.var 10) 1) (.len (.lvar 6)))
(.next 2 (.consl (.lset (.lvar 8) (.get (.lvar 5) (.var 10) 0) 0 (.bin .or .i64 (.get (.lvar 8) (.get (.lvar 5) (.var 10) 0) 0) (.get (.lvar 6) (.get (.lvar 5) (.var 10) 1) 0))) (.consl (.lapp (.lvar 9) (.cons (.var 10) .nil)) .nil)))
.panic))
.panic)))
(.loop 3 10 [.int .i64, .bool, .list [some .i64]] (.cons (.lit 0) (.consb (.tt false) (.consl (.lvar 6) .nil)))
(.br (.lt (.var 10) (.len (.lvar 1)))
(.br (.lt (.var 10) (.lit 0))
.panic
(.br (.lt (.var 10) (.len (.lvar 8)))
(.call 3 ([.int .i64]) (.cons (.get (.lvar 1) (.var 10) 0) (.cons (.get (.lvar 1) (.var 10) 1) (.cons (.get (.lvar 1) (.var 10) 2) (.cons (.get (.lvar 1) (.var 10) 3) (.consb (.getb (.lvar 1) (.var 10) 4) (.cons (.get (.lvar 1) (.var 10) 5) (.cons (.get (.lvar 1) (.var 10) 6) (.cons (.get (.lvar 1) (.var 10) 7) (.cons (.get (.lvar 1) (.var 10) 8) .nil))))))))) 13
(.call 2 ([.int .i64]) (.cons (.get (.lvar 1) (.var 10) 0) (.cons (.get (.lvar 1) (.var 10) 1) (.cons (.get (.lvar 1) (.var 10) 2) (.cons (.get (.lvar 1) (.var 10) 3) (.consb (.getb (.lvar 1) (.var 10) 4) (.cons (.get (.lvar 1) (.var 10) 5) (.cons (.get (.lvar 1) (.var 10) 6) (.cons (.get (.lvar 1) (.var 10) 7) (.cons (.get (.lvar 1) (.var 10) 8) .nil))))))))) 14
(.br (.bvar 11)
(.br (.lt (.var 10) (.len (.lvar 12)))
(.next 3 (.cons (.bin .add .i64 (.var 10) (.lit 1)) (.consb (.tt true) (.consl (.lset (.lvar 12) (.var 10) 0 (.bin .or .i64 (.bin .andNot .i64 (.get (.lvar 8) (.var 10) 0) (.var 13)) (.var 14))) .nil))))
.panic)
(.br (.lt (.var 10) (.len (.lvar 12)))
(.next 3 (.cons (.bin .add .i64 (.var 10) (.lit 1)) (.consb (.not (.eq (.bin .or .i64 (.bin .andNot .i64 (.get (.lvar 8) (.var 10) 0) (.var 13)) (.var 14)) (.get (.lvar 12) (.var 10) 0))) (.consl (.lset (.lvar 12) (.var 10) 0 (.bin .or .i64 (.bin .andNot .i64 (.get (.lvar 8) (.var 10) 0) (.var 13)) (.var 14))) .nil))))
.panic))))
.panic))
(.br (.bvar 11)
(.next 1 (.consl (.lvar 12) (.consl (.lvar 8) .nil)))
(.leaf (.consl (.lvar 12) (.consl (.lvar 8) (.cons (.lit 0) .nil))))))))))))
.panic)
(.leaf (.consl .lnil (.consl .lnil (.cons (.var 3) .nil))))))
def sP_lrun : Spec := ⟨fun k => match k with | 0 => sF_icheck | 1 => sF_lnext | 2 => sF_vrd | 3 => sF_vwr | _ => fun _ => [], fun k => match k with | 0 => sQ_icheck | 1 => sQ_lnext | _ => fun _ => True⟩
set_option maxRecDepth 100000 in
theorem sR_lrun : treeIs tys_LiF [sM_icheck 0, sM_lnext 1, sM_vrd 2, sM_vwr 3] [] [(7, [.tmpI 36 .i64, .row 4, .top 37, .top 38, .top 8, .top 39, .top 40, .top 41, .top 42, .top 43, .top 44, .top 45, .top 10, .top 46, .top 47, .top 48, .top 49, .top 50, .top 51]), (10, [.tmpI 42 .i64, .row 4, .top 43, .top 44, .top 45, .top 10, .top 46, .top 47, .top 48, .top 49, .top 50]), (15, [.row 2, .row 3, .top 11, .top 52, .top 53, .top 54, .top 55, .top 56, .top 57, .top 12, .top 58, .top 59, .top 60, .top 61, .top 62, .top 63, .top 64, .top 65, .top 66, .top 67, .top 68, .top 69, .top 70, .top 71, .top 72, .top 73, .top 74, .top 75, .top 76, .top 77, .top 14, .top 13, .top 78, .top 79, .top 80, .top 81, .top 82, .top 83, .top 84, .top 85, .top 86, .top 87, .top 15, .top 88, .top 89, .top 90, .top 91, .top 92, .top 93, .top 94, .top 95, .top 96, .top 97, .top 98, .top 99, .top 100, .top 101, .top 102, .top 103]), (17, [.row 3, .row 5, .top 54, .top 55, .top 56, .top 57, .top 12, .top 58, .top 59, .top 60, .top 61, .top 62, .top 63, .top 64, .top 65, .top 66, .top 67, .top 68, .top 69]), (21, [.tmpI 73 .i64, .tmpB 11, .row 2, .top 74, .top 75, .top 76, .top 77, .top 14, .top 13, .top 78, .top 79, .top 80, .top 81, .top 82, .top 83, .top 84, .top 85, .top 86, .top 87, .top 15, .top 88, .top 89, .top 90, .top 91, .top 92, .top 93, .top 94, .top 95, .top 96, .top 97, .top 98, .top 99, .top 100, .top 101])] [] 200 Try.f15 [.agg kProg] [.one (.sl [some .i64] 3), .one (.sl [some .i64] 3), .one (.int .i64)] true [.int .i64, .list [some .i8, some .i8, some .i8, some .i8, none, some .i8, some .i8, some .i64, some .i64]] sT_lrun := ⟨by kernel_rfl, by kernel_rfl, by kernel_rfl⟩
def sQ_lrun : List Dt → Prop
  | [.z x0, .l x1] => let f (pr : Prog) : Prop := pr.l.length ≤ maxLen; f ⟨x0, x1⟩
  | _ => False
set_option maxRecDepth 100000 in
set_option maxHeartbeats 8000000 in
theorem sX_lrun (pr : Prog) (hpr : Prog.ok pr) (hp : sQ_lrun [.z pr.ctx, .l pr.l]) (ρ : Env) (g : varsD ρ 0 [.int .i64, .list [some .i8, some .i8, some .i8, some .i8, none, some .i8, some .i8, some .i64, some .i64]] = [.z pr.ctx, .l pr.l]) : sT_lrun.asks sP_lrun (fun ρ e => e.D ρ = sF_lrun [.z pr.ctx, .l pr.l]) ρ fun _ _ => False := by
  simp only [sQ_lrun, b2i_one, Ins.eta, Prog.eta, insAt_mk] at hp
  have keepg := g
  simp only [varsD, varD, List.cons.injEq, Dt.z.injEq, Dt.l.injEq, b2i_eq_iff, Nat.reduceAdd, and_true] at g
  simp only [sT_lrun, sP_lrun, sF_icheck, sF_lnext, sF_vrd, sF_vwr, sV_icheck, sV_lnext, sV_vrd, sV_vwr, sF_lrun, sV_lrun, sQ_icheck, sQ_lnext, Tr.asks, upd_same, okDs, okD, eqs, E.I, E.B, E.L, E.R, E.D, E.vs, dI, dB, dL, varD, varsD, List.getElem?_cons_zero, List.getElem?_cons_succ, List.cons_append, List.nil_append, Nat.zero_add, Nat.add_zero, Nat.reduceAdd, and_true, true_and, b2i_one, -eq_self, Ins.eta, Prog.eta, insAt_mk, g]
  obtain ⟨k0_i0, k0_l1⟩ := g
  refine ⟨?_, ?_⟩
  · exact hp
  intro e; (try simp only [e, Ins.eta, Prog.eta, insAt_mk, -eq_self]); clear e
  refine ⟨fun c0 => ?_, fun c0 => ?_⟩
  refine ⟨fun c1 => ?_, fun c1 => ?_⟩
  have hok := eqI c0
  obtain ⟨⟨_, n1, n64⟩, _, _⟩ := icheck_ok hp hok
  refine ⟨fun ds => ∃ (m : Nat) (ws : List (List Int)), ds = [.z (m : Int), .l ws] ∧ m ≤ pr.l.length ∧ Ways pr m 0 ws, fun ds => pr.l.length - (dI ds 0).toNat, ⟨0, [], rfl, Nat.zero_le _, .nil pr⟩, ?_⟩
  intro ρ1 ha1 _ hi1
  obtain ⟨m, ws, hds, hm, hW⟩ := hi1
  simp only [List.cons.injEq, Dt.z.injEq, Dt.l.injEq, b2i_eq_iff, and_true] at hds
  obtain ⟨k1_i4, k1_l5⟩ := hds
  have k1_i0 : ρ1.i 0 = _ := (ha1 0 (by decide)).1.symm.trans k0_i0
  have k1_l1 : ρ1.l 1 = _ := (ha1 1 (by decide)).2.2.symm.trans k0_l1
  simp only [k1_i0, k1_l1, k1_i4, k1_l5, insAt_mk, -eq_self]
  refine ⟨fun c2 => ?_, fun c2 => ?_⟩
  refine ⟨?_, ?_⟩
  · exact ⟨⟨Int.natCast_nonneg m, of_decide_eq_true c2⟩, hp⟩
  intro e; have k1_l6 : ρ1.l 6 = lnext pr (m : Int) := e; (try simp only [e, Ins.eta, Prog.eta, insAt_mk, -eq_self]); clear e
  have hm2 : m < pr.l.length := Int.ofNat_lt.1 (of_decide_eq_true c2)
  have hn2 : (lnext pr (m : Int)).length ≤ 2 := by obtain ⟨q1, q2, _⟩ := lnext_ok hp hok hm2; rw [q1, List.length_map]; exact q2
  have hn3 : (lnext pr (m : Int)).length = (nx pr m).length := by unfold nx; simp
  refine ⟨fun ds => ∃ (j : Nat) (ws' : List (List Int)), ds = [.z (j : Int), .l ws'] ∧ j ≤ (lnext pr (m : Int)).length ∧ Ways pr m j ws', fun ds => (lnext pr (m : Int)).length - (dI ds 0).toNat, ⟨0, ws, rfl, Nat.zero_le _, hW⟩, ?_⟩
  intro ρ2 ha2 _ hi2
  obtain ⟨j, ws2, hds, hj, hW2⟩ := hi2
  simp only [List.cons.injEq, Dt.z.injEq, Dt.l.injEq, b2i_eq_iff, and_true] at hds
  obtain ⟨k2_i7, k2_l8⟩ := hds
  have k2_i4 : ρ2.i 4 = _ := (ha2 4 (by decide)).1.symm.trans k1_i4
  have k2_l6 : ρ2.l 6 = _ := (ha2 6 (by decide)).2.2.symm.trans k1_l6
  simp only [k2_i4, k2_l6, k2_i7, k2_l8, insAt_mk, -eq_self]
  refine ⟨fun c3 => ?_, fun c3 => ?_⟩
  refine ⟨fun c4 => ?_, fun c4 => ?_⟩
  · have q := of_decide_eq_true c4
    omega
  refine ⟨fun c5 => ?_, fun c5 => ?_⟩
  · have hj2 := Int.ofNat_lt.1 (of_decide_eq_true c3)
    obtain ⟨x, y1, y2, y3⟩ := lnext_at hp hok hm2 hj2
    rw [y2] at c5 ⊢
    exact ⟨⟨j + 1, _, (by rw [addN hj2 (Nat.le_trans hn2 (by decide))]; try rfl), hj2, hW2.put y1 (of_decide_eq_true c5)⟩, by rw [addN hj2 (Nat.le_trans hn2 (by decide))]; show (lnext pr (m : Int)).length - (((j + 1 : Nat) : Int)).toNat < (lnext pr (m : Int)).length - ((j : Int)).toNat; omega⟩
  refine ⟨fun c6 => ?_, fun c6 => ?_⟩
  · have hj2 := Int.ofNat_lt.1 (of_decide_eq_true c3)
    obtain ⟨x, y1, y2, y3⟩ := lnext_at hp hok hm2 hj2
    rw [y2]
    exact ⟨⟨j + 1, _, (by rw [addN hj2 (Nat.le_trans hn2 (by decide))]; try rfl), hj2, hW2.app y1⟩, by rw [addN hj2 (Nat.le_trans hn2 (by decide))]; show (lnext pr (m : Int)).length - (((j + 1 : Nat) : Int)).toNat < (lnext pr (m : Int)).length - ((j : Int)).toNat; omega⟩
  · have q := of_decide_eq_false c6
    have := hW2.len
    omega
  · show _ ∧ _
    exact ⟨⟨m + 1, ws2, by rw [addN hm2 hp], hm2, hW2.out (by have := of_decide_eq_false c3; omega) (hn3 ▸ hn2)⟩, by rw [addN hm2 hp]; show pr.l.length - (((m + 1 : Nat) : Int)).toNat < pr.l.length - ((m : Int)).toNat; omega⟩
  have hmn : m = pr.l.length := by have := of_decide_eq_false c2; omega
  rw [hmn] at hW
  refine ⟨fun ds => ∃ (I O : List BV) (f : Nat), ds = [.l (rowsB I), .l (rowsB O)] ∧ Inv pr I O ∧ muB I < f ∧ lrunB pr = iter pr f I O, fun ds => mu (dL ds 0), ⟨List.replicate pr.l.length 0, List.replicate pr.l.length 0, 1180591620717411303425, by rw [← rows_rep]; rfl, .zero pr, by rw [mu_top]; omega, rfl⟩, ?_⟩
  intro ρ3 ha3 _ hi3
  obtain ⟨I, O, f, hds, hV, hf, hr⟩ := hi3
  simp only [List.cons.injEq, Dt.z.injEq, Dt.l.injEq, b2i_eq_iff, and_true] at hds
  obtain ⟨k3_l6, k3_l7⟩ := hds
  have k3_i0 : ρ3.i 0 = _ := (ha3 0 (by decide)).1.symm.trans k1_i0
  have k3_l1 : ρ3.l 1 = _ := (ha3 1 (by decide)).2.2.symm.trans k1_l1
  have k3_l5 : ρ3.l 5 = _ := (ha3 5 (by decide)).2.2.symm.trans k1_l5
  simp only [k3_i0, k3_l1, k3_l5, k3_l6, k3_l7, insAt_mk, -eq_self]
  refine ⟨fun ds => ∃ (L V : List (List Int)), ds = [.l L, .l V] ∧ Seen pr I O ws L V, fun ds => ws.length - (dL ds 1).length, ⟨rowsB O, [], rfl, .init pr I O ws hV.lo⟩, ?_⟩
  intro ρ4 ha4 _ hi4
  obtain ⟨L, V, hds, hS⟩ := hi4
  simp only [List.cons.injEq, Dt.z.injEq, Dt.l.injEq, b2i_eq_iff, and_true] at hds
  obtain ⟨k4_l8, k4_l9⟩ := hds
  have k4_i0 : ρ4.i 0 = _ := (ha4 0 (by decide)).1.symm.trans k3_i0
  have k4_l1 : ρ4.l 1 = _ := (ha4 1 (by decide)).2.2.symm.trans k3_l1
  have k4_l5 : ρ4.l 5 = _ := (ha4 5 (by decide)).2.2.symm.trans k3_l5
  have k4_l6 : ρ4.l 6 = _ := (ha4 6 (by decide)).2.2.symm.trans k3_l6
  simp only [k4_i0, k4_l1, k4_l5, k4_l6, k4_l8, k4_l9, insAt_mk, -eq_self]
  refine ⟨fun c7 => ?_, fun c7 => ?_⟩
  intro ρ5 ha5 hz5 hc5
  have k5_i0 : ρ5.i 0 = _ := (ha5 0 (by decide)).1.symm.trans k4_i0
  have k5_l1 : ρ5.l 1 = _ := (ha5 1 (by decide)).2.2.symm.trans k4_l1
  have k5_l5 : ρ5.l 5 = _ := (ha5 5 (by decide)).2.2.symm.trans k4_l5
  have k5_l6 : ρ5.l 6 = _ := (ha5 6 (by decide)).2.2.symm.trans k4_l6
  have k5_l8 : ρ5.l 8 = _ := (ha5 8 (by decide)).2.2.symm.trans k4_l8
  have k5_l9 : ρ5.l 9 = _ := (ha5 9 (by decide)).2.2.symm.trans k4_l9
  simp only [k5_l5, k5_l9, Bool.and_eq_true, Bool.not_eq_true'] at hc5
  obtain ⟨q1, q2, q3⟩ := hc5
  replace q1 := of_decide_eq_false q1
  replace q2 := of_decide_eq_true q2
  replace q3 := of_decide_eq_false q3
  obtain ⟨v, k5_i10⟩ := Int.eq_ofNat_of_zero_le (Int.not_lt.1 q1)
  rw [k5_i10] at q2 q3
  have hvl := Int.ofNat_lt.1 q2
  obtain ⟨a, b, hab, hwv⟩ := hW.snd _ (List.getElem_mem hvl)
  have hab : a < pr.l.length ∧ b ∈ nx pr a := hab.elim id (fun h => by simp at h)
  have hw5 : ws[v]? = some [(a : Int), (b : Int), 1] := by rw [List.getElem?_eq_getElem hvl, hwv]
  have hb5 := (lnext_ok hp hok hab.1).2.2 b hab.2
  have g0 : gt ws (v : Int) 0 = (a : Int) := by simp [gt, hw5]
  have g1 : gt ws (v : Int) 1 = (b : Int) := by simp [gt, hw5]
  have hLl := hS.len
  simp only [k5_i0, k5_l1, k5_l5, k5_l6, k5_l8, k5_l9, k5_i10, insAt_mk, g0, g1, -eq_self]
  refine ⟨fun c8 => ?_, fun c8 => ?_⟩
  · have q := of_decide_eq_true c8
    omega
  refine ⟨fun c9 => ?_, fun c9 => ?_⟩
  refine ⟨fun c10 => ?_, fun c10 => ?_⟩
  · have q := of_decide_eq_true c10
    omega
  refine ⟨fun c11 => ?_, fun c11 => ?_⟩
  · exact ⟨⟨_, _, rfl, hS.step hV.li (mix_new q3) hw5 hab.1 hb5⟩, by have := of_decide_eq_true c7; show ws.length - (V ++ [[(v : Int)]]).length < ws.length - V.length; rw [List.length_append]; show ws.length - (V.length + 1) < _; omega⟩
  · have q := of_decide_eq_false c11
    have := hV.li
    simp only [rows_len] at q
    omega
  · have q := of_decide_eq_false c9
    omega
  have hL := hS.done hW (fun h => of_decide_eq_false c7 (Int.ofNat_lt.2 h))
  rw [hL] at k4_l8
  try rw [hL]
  refine ⟨fun ds => ∃ (i : Nat) (b : Bool) (L : List (List Int)), ds = [.z (i : Int), .z (b2i b), .l L] ∧ i ≤ pr.l.length ∧ Wrote pr I (stO pr I O) i b L, fun ds => pr.l.length - (dI ds 0).toNat, ⟨0, false, rowsB I, rfl, Nat.zero_le _, .init _ _ _⟩, ?_⟩
  intro ρ6 ha6 _ hi6
  obtain ⟨i, b, L6, hds, hi6, hR⟩ := hi6
  simp only [List.cons.injEq, Dt.z.injEq, Dt.l.injEq, b2i_eq_iff, and_true] at hds
  obtain ⟨k6_i10, k6_b11, k6_l12⟩ := hds
  have k6_i0 : ρ6.i 0 = _ := (ha6 0 (by decide)).1.symm.trans k4_i0
  have k6_l1 : ρ6.l 1 = _ := (ha6 1 (by decide)).2.2.symm.trans k4_l1
  have k6_l8 : ρ6.l 8 = _ := (ha6 8 (by decide)).2.2.symm.trans k4_l8
  simp only [k6_i0, k6_l1, k6_l8, k6_i10, k6_b11, k6_l12, insAt_mk, -eq_self]
  have hLl := hR.len hV.li hi6
  refine ⟨fun c12 => ?_, fun c12 => ?_⟩
  refine ⟨fun c13 => ?_, fun c13 => ?_⟩
  · have q := of_decide_eq_true c13
    omega
  refine ⟨fun c14 => ?_, fun c14 => ?_⟩
  intro e; (try simp only [e, Ins.eta, Prog.eta, insAt_mk, -eq_self]); clear e
  intro e; (try simp only [e, Ins.eta, Prog.eta, insAt_mk, -eq_self]); clear e
  refine ⟨fun c15 => ?_, fun c15 => ?_⟩
  refine ⟨fun c16 => ?_, fun c16 => ?_⟩
  · have hi7 := Int.ofNat_lt.1 (of_decide_eq_true c12)
    have hR2 := hR.step hV.li (stO_len _ _ _) hi7
    rw [c15, Bool.true_or] at hR2
    exact ⟨⟨i + 1, _, _, (by rw [addN hi7 hp]; try rfl), hi7, hR2⟩, by rw [addN hi7 hp]; show pr.l.length - (((i + 1 : Nat) : Int)).toNat < pr.l.length - ((i : Int)).toNat; omega⟩
  · have q := of_decide_eq_false c16
    have q0 := of_decide_eq_true c12
    omega
  refine ⟨fun c17 => ?_, fun c17 => ?_⟩
  · have hi7 := Int.ofNat_lt.1 (of_decide_eq_true c12)
    have hR2 := hR.step hV.li (stO_len _ _ _) hi7
    rw [c15, Bool.false_or] at hR2
    exact ⟨⟨i + 1, _, _, (by rw [addN hi7 hp]; try rfl), hi7, hR2⟩, by rw [addN hi7 hp]; show pr.l.length - (((i + 1 : Nat) : Int)).toNat < pr.l.length - ((i : Int)).toNat; omega⟩
  · have q := of_decide_eq_false c17
    have q0 := of_decide_eq_true c12
    omega
  · have q := of_decide_eq_false c14
    have := stO_len pr I O
    have q0 := of_decide_eq_true c12
    simp only [rows_len] at q
    omega
  refine ⟨fun c18 => ?_, fun c18 => ?_⟩
  · show _ ∧ _
    have hD := hR.done hV.li (by have := of_decide_eq_false c12; omega)
    have hne := hD.2.1 c18
    rw [hD.1]
    exact ⟨⟨_, _, f - 1, rfl, hV.step, by have := hV.mu hne; omega, by rw [hr]; obtain ⟨f, rfl⟩ : ∃ g, f = g + 1 := ⟨f - 1, by omega⟩; rw [iter, if_neg hne]; rfl⟩, by show mu (rowsB _) < mu (rowsB _); rw [mu_rows, mu_rows]; exact hV.mu hne⟩
  · have hD := hR.done hV.li (by have := of_decide_eq_false c12; omega)
    have he : stI pr (stO pr I O) = I := Classical.byContradiction fun h => by rw [hD.2.2 h] at c18; cases c18
    have hE : lrunB pr = (I, stO pr I O) := by rw [hr]; obtain ⟨f, rfl⟩ : ∃ g, f = g + 1 := ⟨f - 1, by omega⟩; rw [iter, if_pos he]
    unfold lrun; rw [if_pos hok, hE, hD.1, he]; try rfl
  · have q := of_decide_eq_false c1
    have := (icheck_ok hp (eqI c0)).1.2.2
    omega
  · unfold lrun; rw [if_neg (neI c0)]; try rfl
theorem sK_lrun {sp : Spec} {key : Nat} (hF : sp.F key = sF_lrun) (hP : sp.pre key = sQ_lrun) : SmOk Try.prog sp (sM_lrun key) :=
  fun_ok (s := sM_lrun key) hF hP (by kernel_rfl) tysok_LiF (smc (sK_icheck rfl rfl) (smc (sK_lnext rfl rfl) (smc (sK_vrd rfl) (smc (sK_vwr rfl) sm0)))) Try.func15 fn0 sR_lrun (.inr (fun xs h L hL => by unfold sQ_lrun at h; split at h <;> first | exact h.elim | (simp at hL; subst hL; exact h))) (fun x0 gx0 x1 gx1 hp ρ g => sX_lrun ⟨x0, x1⟩ ⟨gx0, gx1⟩ hp ρ g)
end Go.Proofs.Ytmkaphfdgdkaoaa
