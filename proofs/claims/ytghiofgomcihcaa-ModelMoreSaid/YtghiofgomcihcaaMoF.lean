/- Contracts of what compares outcomes. -/
import Derived.Test.YtghiofgomcihcaaMoC
import Derived.Test.YtghiofgomcihcaaMoE
import Derived.Test.YtghiofgomcihcaaProg
import Derived.Laws.Externs
set_option linter.unusedVariables false
set_option linter.unusedSimpArgs false
namespace Go.Proofs.Ytghiofgomcihcaa
open Go.RowKit Go.ChangeShapes Go.WideShapes

def tys_MoF : List (Nat × TI) := [(3, ⟨false, 1, [.int .i64 (.lit 0)], [], none, some .i64, false, false, none, 8, false, none, false, 0⟩),
 (4, ⟨false, 1, [.bool (.tt false)], [], none, none, false, true, none, 1, false, none, false, 0⟩),
 (5, ⟨false, 1, [.int .u8 (.lit 0)], [], none, some .u8, false, false, none, 1, false, none, false, 0⟩),
 (9, ⟨false, 1, [.str .lnil], [], none, none, false, false, none, 16, false, none, false, 2⟩),
 (22, ⟨false, 1, [.nsl], [], none, none, false, false, some 44, 24, false, none, false, 0⟩),
 (24, ⟨true, 2, [.int .i64 (.lit 0), .nsl], [(0, 3), (1, 22)], none, none, false, false, none, 32, false, none, false, 0⟩),
 (25, ⟨false, 1, [.nsl], [], none, none, false, false, some 5, 24, false, none, false, 0⟩),
 (26, ⟨false, 1, [.nsl], [], none, none, false, false, some 30, 24, false, none, false, 0⟩),
 (29, ⟨false, 1, [.int .i8 (.lit 0)], [], none, some .i8, false, false, none, 1, false, none, false, 0⟩),
 (30, ⟨false, 1, [.int .u64 (.lit 0)], [], none, some .u64, false, false, none, 8, false, none, false, 0⟩),
 (31, ⟨false, 1, [.nsl], [], none, none, false, false, some 39, 24, false, none, false, 0⟩),
 (33, ⟨true, 5, [.int .i8 (.lit 0), .int .u64 (.lit 0), .nsl, .nsl, .int .i64 (.lit 0)], [(0, 29), (1, 30), (2, 25), (3, 31), (4, 3)], none, none, false, false, none, 72, false, none, false, 0⟩),
 (34, ⟨false, 1, [.int .i64 (.lit 0)], [], none, some .i64, false, false, none, 8, false, none, false, 0⟩),
 (39, ⟨true, 3, [.int .i64 (.lit 0), .nsl, .int .u64 (.lit 0)], [(0, 3), (1, 26), (2, 30)], none, none, false, false, none, 40, false, none, false, 0⟩),
 (44, ⟨true, 9, [.int .i8 (.lit 0), .int .i8 (.lit 0), .int .i8 (.lit 0), .int .i8 (.lit 0), .bool (.tt false), .int .i8 (.lit 0), .int .i8 (.lit 0), .int .i64 (.lit 0), .int .i64 (.lit 0)], [(0, 29), (1, 29), (2, 29), (3, 29), (4, 4), (5, 29), (6, 29), (7, 3), (8, 3)], none, none, true, false, none, 24, false, none, false, 0⟩)]
set_option maxRecDepth 100000 in
theorem tysck_MoF : (tys_MoF.all fun p => ckTI Try.prog p.1 p.2) = true := by kernel_rfl
theorem tyseq_MoF : (tys_MoF.all fun p => !p.2.eqok || ((Nat.beq p.1 44 && kindsC p.2.zero z_Ins))) = true := by kernel_rfl
theorem tyskn_MoF : (tys_MoF.all fun p => !p.2.keyok) = true := by kernel_rfl
theorem tysok_MoF : ∀ t i, (t, i) ∈ tys_MoF → TIok Try.prog t i := by
  intro t i h
  refine TIok_of (all_at (f := ckTI Try.prog) tysck_MoF h) (fun he => ?_) (fun he => ?_) (fun he => ?_)
  · have h1 := List.all_eq_true.1 tyseq_MoF (t, i) h
    simp only [he, Bool.not_true, Bool.false_or, Bool.or_eq_true, Bool.and_eq_true] at h1
    have hs := h1.2
    obtain rfl := Nat.eq_of_beq_eq_true h1.1
    exact fun vs us hv hu => eq_Ins vs us (kindsV_of hs hv) (kindsV_of hs hu)
  · have h1 := List.all_eq_true.1 tyseq_MoF (t, i) h
    simp only [he, Bool.not_true, Bool.false_or, Bool.or_eq_true, Bool.and_eq_true] at h1
    have hs := h1.2
    obtain rfl := Nat.eq_of_beq_eq_true h1.1
    exact grd_Ins
  · have h1 := List.all_eq_true.1 tyskn_MoF (t, i) h
    simp [he] at h1
def sM_ewords (key : Nat) : Sm := ⟨40, key, [.one (.sl [some .u64] 30), .one (.sl [some .u64] 30)], [.one .bool], false⟩
def sV_ewords (a : List (List Int)) (b : List (List Int)) : List Dt := [.z (b2i (ewords a b))]
def sF_ewords : List Dt → List Dt
  | [.l x0, .l x1] => sV_ewords x0 x1
  | _ => []
def sT_ewords : Tr :=
(.br (.eq (.len (.lvar 0)) (.len (.lvar 1)))
(.loop 0 2 [.int .i64] (.cons (.lit 0) .nil)
(.br (.lt (.var 2) (.len (.lvar 0)))
(.br (.lt (.var 2) (.lit 0))
.panic
(.br (.lt (.var 2) (.len (.lvar 1)))
(.br (.eq (.get (.lvar 0) (.var 2) 0) (.get (.lvar 1) (.var 2) 0))
(.next 0 (.cons (.bin .add .i64 (.var 2) (.lit 1)) .nil))
(.leaf (.consb (.tt false) .nil)))
.panic))
(.leaf (.consb (.tt true) .nil))))
(.leaf (.consb (.tt false) .nil)))
def sP_ewords : Spec := ⟨fun k => match k with | _ => fun _ => [], fun k => match k with | _ => fun _ => True⟩
set_option maxRecDepth 100000 in
theorem sR_ewords : treeIs tys_MoF [] [] [(4, [.tmpI 5 .i64, .top 11, .top 12, .top 13, .top 14, .top 17, .top 18, .top 19, .top 20, .top 21, .top 22, .top 23, .top 24, .top 25, .top 4, .top 15, .top 16])] [] 200 Try.f40 [.one (.sl [some .u64] 30), .one (.sl [some .u64] 30)] [.one .bool] false [.list [some .u64], .list [some .u64]] sT_ewords := ⟨by kernel_rfl, by kernel_rfl, by kernel_rfl⟩
def sQ_ewords : List Dt → Prop
  | [.l x0, .l x1] => let f (a : List (List Int)) (b : List (List Int)) : Prop := a.length ≤ maxLen ∧ b.length ≤ maxLen; f x0 x1
  | _ => False
set_option maxRecDepth 100000 in
set_option maxHeartbeats 8000000 in
theorem sX_ewords (a : List (List Int)) (ha : RowsIn [some .u64] a) (b : List (List Int)) (hb : RowsIn [some .u64] b) (hp : sQ_ewords [.l a, .l b]) (ρ : Env) (g : varsD ρ 0 [.list [some .u64], .list [some .u64]] = [.l a, .l b]) : sT_ewords.asks sP_ewords (fun ρ e => e.D ρ = sF_ewords [.l a, .l b]) ρ fun _ _ => False := by
  simp only [sQ_ewords, b2i_one, Ins.eta, Prog.eta, insAt_mk, Mem.eta, Mach.eta] at hp
  have keepg := g
  simp only [varsD, varD, List.cons.injEq, Dt.z.injEq, Dt.l.injEq, b2i_eq_iff, Nat.reduceAdd, and_true] at g
  simp only [sT_ewords, sP_ewords, sF_ewords, sV_ewords, Tr.asks, upd_same, okDs, okD, eqs, E.I, E.B, E.L, E.R, E.D, E.vs, dI, dB, dL, varD, varsD, List.getElem?_cons_zero, List.getElem?_cons_succ, List.cons_append, List.nil_append, Nat.zero_add, Nat.add_zero, Nat.reduceAdd, and_true, true_and, b2i_one, -eq_self, Ins.eta, Prog.eta, insAt_mk, Mem.eta, Mach.eta, g]
  obtain ⟨k0_l0, k0_l1⟩ := g
  refine ⟨fun c0 => ?_, fun c0 => ?_⟩
  refine ⟨fun ds => ∃ n : Nat, ds = [.z (n : Int)] ∧ n ≤ a.length ∧ ∀ j : Nat, j < n → (gt a (j : Int) 0 == gt b (j : Int) 0) = true, fun ds => a.length - (dI ds 0).toNat, ⟨0, rfl, Nat.zero_le _, fun j hj => absurd hj (Nat.not_lt_zero _)⟩, ?_⟩
  intro ρ1 ha1 _ hi1
  obtain ⟨n, hds, hn, hall⟩ := hi1
  simp only [List.cons.injEq, Dt.z.injEq, Dt.l.injEq, b2i_eq_iff, and_true] at hds
  have k1_i2 := hds
  have k1_l0 : ρ1.l 0 = _ := (ha1 0 (by decide)).2.2.symm.trans k0_l0
  have k1_l1 : ρ1.l 1 = _ := (ha1 1 (by decide)).2.2.symm.trans k0_l1
  simp only [k1_l0, k1_l1, k1_i2, -eq_self]
  refine ⟨fun c1 => ?_, fun c1 => ?_⟩
  refine ⟨fun c2 => ?_, fun c2 => ?_⟩
  · exact absurd (of_decide_eq_true c2) (by omega)
  refine ⟨fun c3 => ?_, fun c3 => ?_⟩
  refine ⟨fun c4 => ?_, fun c4 => ?_⟩
  · have hn2 : n < a.length := Int.ofNat_lt.1 (of_decide_eq_true c1)
    rw [addO hn2 hp.1]
    exact ⟨⟨n + 1, rfl, hn2, fun j hj => by rcases Nat.lt_succ_iff_lt_or_eq.1 hj with h | rfl; exact hall j h; exact c4⟩, by show a.length - (((n + 1 : Nat) : Int)).toNat < a.length - ((n : Int)).toNat; omega⟩
  · have hn2 : n < a.length := Int.ofNat_lt.1 (of_decide_eq_true c1)
    have h0 : ewords a b = false := by unfold ewords; rw [c0, not_upto hn2 c4]; rfl
    rw [h0]
  · have hn2 : n < a.length := Int.ofNat_lt.1 (of_decide_eq_true c1)
    exact absurd (of_decide_eq_false c3) (by have := eqI c0; omega)
  · obtain rfl : n = a.length := by have := of_decide_eq_false c1; omega
    have h0 : ewords a b = true := by unfold ewords; rw [c0, all_upto hall]; rfl
    rw [h0]
  · have h0 : ewords a b = false := by unfold ewords; rw [c0]; rfl
    rw [h0]
theorem sK_ewords {sp : Spec} {key : Nat} (hF : sp.F key = sF_ewords) (hP : sp.pre key = sQ_ewords) : SmOk Try.prog sp (sM_ewords key) :=
  fun_ok (s := sM_ewords key) hF hP (by kernel_rfl) tysok_MoF (sm0) Try.func40 fn0 sR_ewords (.inr (.inl ⟨(fun xs h L hL => by unfold sQ_ewords at h; split at h <;> first | exact h.elim | (simp at hL; rcases hL with rfl | rfl; exact h.1; exact h.2)), rfl⟩)) (fun x0 gx0 x1 gx1 hp ρ g => sX_ewords x0 gx0 x1 gx1 hp ρ g)
def sM_ebegins (key : Nat) : Sm := ⟨12, key, [.one (.sl [some .i64, some .u64, some .i64, some .u64, some .u64, some .u64, some .u64, some .u64] 39), .one (.sl [some .i64, some .u64, some .i64, some .u64, some .u64, some .u64, some .u64, some .u64] 39)], [.one .bool], false⟩
def sV_ebegins (a : List (List Int)) (b : List (List Int)) : List Dt := [.z (b2i (ebegins a b))]
def sF_ebegins : List Dt → List Dt
  | [.l x0, .l x1] => sV_ebegins x0 x1
  | _ => []
def sT_ebegins : Tr :=
(.br (.lt (.len (.lvar 1)) (.len (.lvar 0)))
(.leaf (.consb (.tt false) .nil))
(.loop 0 2 [.int .i64] (.cons (.lit 0) .nil)
(.br (.lt (.var 2) (.len (.lvar 0)))
(.br (.lt (.var 2) (.lit 0))
.panic
(.br (.lt (.var 2) (.len (.lvar 1)))
(.br (.eq (.get (.lvar 0) (.var 2) 0) (.get (.lvar 1) (.var 2) 0))
(.br (.eq (.get (.lvar 0) (.var 2) 1) (.get (.lvar 1) (.var 2) 1))
(.call 0 [.bool] (.consl (.ltake (.lapp (.lapp (.lapp (.lapp (.lapp .lnil (.cons (.get (.lvar 0) (.var 2) 3) .nil)) (.cons (.get (.lvar 0) (.var 2) 4) .nil)) (.cons (.get (.lvar 0) (.var 2) 5) .nil)) (.cons (.get (.lvar 0) (.var 2) 6) .nil)) (.cons (.get (.lvar 0) (.var 2) 7) .nil)) (.get (.lvar 0) (.var 2) 2)) (.consl (.ltake (.lapp (.lapp (.lapp (.lapp (.lapp .lnil (.cons (.get (.lvar 1) (.var 2) 3) .nil)) (.cons (.get (.lvar 1) (.var 2) 4) .nil)) (.cons (.get (.lvar 1) (.var 2) 5) .nil)) (.cons (.get (.lvar 1) (.var 2) 6) .nil)) (.cons (.get (.lvar 1) (.var 2) 7) .nil)) (.get (.lvar 1) (.var 2) 2)) .nil)) 3
(.br (.bvar 3)
(.next 0 (.cons (.bin .add .i64 (.var 2) (.lit 1)) .nil))
(.leaf (.consb (.tt false) .nil))))
(.leaf (.consb (.tt false) .nil)))
(.leaf (.consb (.tt false) .nil)))
.panic))
(.leaf (.consb (.tt true) .nil)))))
def sP_ebegins : Spec := ⟨fun k => match k with | 0 => sF_ewords | _ => fun _ => [], fun k => match k with | 0 => sQ_ewords | _ => fun _ => True⟩
set_option maxRecDepth 100000 in
theorem sR_ebegins : treeIs tys_MoF [sM_ewords 0] [(26, Try.f26, [(999999, []), (999998, [])], [])] [(4, [.tmpI 5 .i64, .top 11, .top 12, .top 13, .top 14, .top 17, .top 18, .top 19, .top 20, .top 21, .top 22, .top 23, .top 24, .top 25, .top 26, .top 4, .top 15, .top 16]), (999999, []), (999998, [])] [] 200 Try.f12 [.one (.sl [some .i64, some .u64, some .i64, some .u64, some .u64, some .u64, some .u64, some .u64] 39), .one (.sl [some .i64, some .u64, some .i64, some .u64, some .u64, some .u64, some .u64, some .u64] 39)] [.one .bool] false [.list [some .i64, some .u64, some .i64, some .u64, some .u64, some .u64, some .u64, some .u64], .list [some .i64, some .u64, some .i64, some .u64, some .u64, some .u64, some .u64, some .u64]] sT_ebegins := ⟨by kernel_rfl, by kernel_rfl, by kernel_rfl⟩
set_option maxRecDepth 100000 in
set_option maxHeartbeats 8000000 in
theorem sX_ebegins (a : List (List Int)) (ha : RowsIn [some .i64, some .u64, some .i64, some .u64, some .u64, some .u64, some .u64, some .u64] a) (b : List (List Int)) (hb : RowsIn [some .i64, some .u64, some .i64, some .u64, some .u64, some .u64, some .u64, some .u64] b) (ρ : Env) (g : varsD ρ 0 [.list [some .i64, some .u64, some .i64, some .u64, some .u64, some .u64, some .u64, some .u64], .list [some .i64, some .u64, some .i64, some .u64, some .u64, some .u64, some .u64, some .u64]] = [.l a, .l b]) : sT_ebegins.asks sP_ebegins (fun ρ e => e.D ρ = sF_ebegins [.l a, .l b]) ρ fun _ _ => False := by
  have keepg := g
  simp only [varsD, varD, List.cons.injEq, Dt.z.injEq, Dt.l.injEq, b2i_eq_iff, Nat.reduceAdd, and_true] at g
  simp only [sT_ebegins, sP_ebegins, sF_ewords, sV_ewords, sF_ebegins, sV_ebegins, sQ_ewords, Tr.asks, upd_same, okDs, okD, eqs, E.I, E.B, E.L, E.R, E.D, E.vs, dI, dB, dL, varD, varsD, List.getElem?_cons_zero, List.getElem?_cons_succ, List.cons_append, List.nil_append, Nat.zero_add, Nat.add_zero, Nat.reduceAdd, and_true, true_and, b2i_one, -eq_self, Ins.eta, Prog.eta, insAt_mk, Mem.eta, Mach.eta, g]
  obtain ⟨k0_l0, k0_l1⟩ := g
  refine ⟨fun c0 => ?_, fun c0 => ?_⟩
  · have h0 : ebegins a b = false := by unfold ebegins; rw [c0]; rfl
    rw [h0]
  refine ⟨fun ds => ∃ n : Nat, ds = [.z (n : Int)] ∧ n ≤ a.length ∧ ∀ j : Nat, j < n → evEq a b (j : Int) = true, fun ds => a.length - (dI ds 0).toNat, ⟨0, rfl, Nat.zero_le _, fun j hj => absurd hj (Nat.not_lt_zero _)⟩, ?_⟩
  intro ρ1 ha1 _ hi1
  obtain ⟨n, hds, hn, hall⟩ := hi1
  simp only [List.cons.injEq, Dt.z.injEq, Dt.l.injEq, b2i_eq_iff, and_true] at hds
  have k1_i2 := hds
  have k1_l0 : ρ1.l 0 = _ := (ha1 0 (by decide)).2.2.symm.trans k0_l0
  have k1_l1 : ρ1.l 1 = _ := (ha1 1 (by decide)).2.2.symm.trans k0_l1
  simp only [k1_l0, k1_l1, k1_i2, -eq_self]
  refine ⟨fun c1 => ?_, fun c1 => ?_⟩
  refine ⟨fun c2 => ?_, fun c2 => ?_⟩
  · exact absurd (of_decide_eq_true c2) (by omega)
  refine ⟨fun c3 => ?_, fun c3 => ?_⟩
  refine ⟨fun c4 => ?_, fun c4 => ?_⟩
  refine ⟨fun c5 => ?_, fun c5 => ?_⟩
  refine ⟨?_, ?_⟩
  · exact ⟨argsOf_len _ _, argsOf_len _ _⟩
  intro e; (try simp only [e, Ins.eta, Prog.eta, insAt_mk, Mem.eta, Mach.eta, -eq_self]); clear e
  refine ⟨fun c6 => ?_, fun c6 => ?_⟩
  · have hn2 : n < a.length := Int.ofNat_lt.1 (of_decide_eq_true c1)
    have h7 : evEq a b (n : Int) = true := by unfold evEq; rw [c4, c5, show ewords (argsOf a (n : Int)) (argsOf b (n : Int)) = true from c6]; rfl
    rw [addO hn2 ha.len]
    exact ⟨⟨n + 1, rfl, hn2, fun j hj => by rcases Nat.lt_succ_iff_lt_or_eq.1 hj with h | rfl; exact hall j h; exact h7⟩, by show a.length - (((n + 1 : Nat) : Int)).toNat < a.length - ((n : Int)).toNat; omega⟩
  · have hn2 : n < a.length := Int.ofNat_lt.1 (of_decide_eq_true c1)
    have h7 : evEq a b (n : Int) = false := by unfold evEq; rw [c4, c5, show ewords (argsOf a (n : Int)) (argsOf b (n : Int)) = false from c6]; rfl
    have h0 : ebegins a b = false := by unfold ebegins; rw [c0, not_upto hn2 h7]; rfl
    rw [h0]
  · have hn2 : n < a.length := Int.ofNat_lt.1 (of_decide_eq_true c1)
    have h7 : evEq a b (n : Int) = false := by unfold evEq; rw [c4, c5]; rfl
    have h0 : ebegins a b = false := by unfold ebegins; rw [c0, not_upto hn2 h7]; rfl
    rw [h0]
  · have hn2 : n < a.length := Int.ofNat_lt.1 (of_decide_eq_true c1)
    have h7 : evEq a b (n : Int) = false := by unfold evEq; rw [c4]; rfl
    have h0 : ebegins a b = false := by unfold ebegins; rw [c0, not_upto hn2 h7]; rfl
    rw [h0]
  · have hn2 : n < a.length := Int.ofNat_lt.1 (of_decide_eq_true c1)
    exact absurd (of_decide_eq_false c3) (by have := of_decide_eq_false c0; omega)
  · obtain rfl : n = a.length := by have := of_decide_eq_false c1; omega
    have h0 : ebegins a b = true := by unfold ebegins; rw [c0, all_upto hall]; rfl
    rw [h0]
theorem sK_ebegins {sp : Spec} {key : Nat} (hF : sp.F key = sF_ebegins) (hP : sp.pre key = fun _ => True := by rfl) : SmOk Try.prog sp (sM_ebegins key) :=
  fun_ok (s := sM_ebegins key) hF hP (by kernel_rfl) tysok_MoF (smc (sK_ewords rfl rfl) sm0) Try.func12 (fnc Try.func26 fn0) sR_ebegins (.inr (.inr rfl)) (fun x0 gx0 x1 gx1 hp ρ g => sX_ebegins x0 gx0 x1 gx1 ρ g)
def sM_esame (key : Nat) : Sm := ⟨15, key, [.agg kOut, .agg kOut], [.one .bool], false⟩
def sV_esame (a : Out) (b : Out) : List Dt := [.z (b2i (esame a b))]
def sF_esame : List Dt → List Dt
  | [.z x0, .z x1, .l x2, .l x3, .z x4, .z x5, .z x6, .l x7, .l x8, .z x9] => sV_esame ⟨x0, x1, x2, x3, x4⟩ ⟨x5, x6, x7, x8, x9⟩
  | _ => []
def sT_esame : Tr :=
(.br (.eq (.var 0) (.var 5))
(.br (.eq (.var 1) (.var 6))
(.br (.leq (.lvar 2) (.lvar 7))
(.br (.eq (.len (.lvar 3)) (.len (.lvar 8)))
(.call 0 [.bool] (.consl (.lvar 3) (.consl (.lvar 8) .nil)) 10
(.br (.bvar 10)
(.leaf (.consb (.eq (.var 4) (.var 9)) .nil))
(.leaf (.consb (.tt false) .nil))))
(.leaf (.consb (.tt false) .nil)))
(.leaf (.consb (.tt false) .nil)))
(.leaf (.consb (.tt false) .nil)))
(.leaf (.consb (.tt false) .nil)))
def sP_esame : Spec := ⟨fun k => match k with | 0 => sF_ebegins | _ => fun _ => [], fun k => match k with | _ => fun _ => True⟩
set_option maxRecDepth 100000 in
theorem sR_esame : treeIs tys_MoF [sM_ebegins 0] [(28, Try.f28, [], [])] [(999999, [])] [] 200 Try.f15 [.agg kOut, .agg kOut] [.one .bool] false [.int .i8, .int .u64, .list [some .u8], .list [some .i64, some .u64, some .i64, some .u64, some .u64, some .u64, some .u64, some .u64], .int .i64, .int .i8, .int .u64, .list [some .u8], .list [some .i64, some .u64, some .i64, some .u64, some .u64, some .u64, some .u64, some .u64], .int .i64] sT_esame := ⟨by kernel_rfl, by kernel_rfl, by kernel_rfl⟩
set_option maxRecDepth 100000 in
set_option maxHeartbeats 8000000 in
theorem sX_esame (a : Out) (ha : Out.ok a) (b : Out) (hb : Out.ok b) (ρ : Env) (g : varsD ρ 0 [.int .i8, .int .u64, .list [some .u8], .list [some .i64, some .u64, some .i64, some .u64, some .u64, some .u64, some .u64, some .u64], .int .i64, .int .i8, .int .u64, .list [some .u8], .list [some .i64, some .u64, some .i64, some .u64, some .u64, some .u64, some .u64, some .u64], .int .i64] = [.z a.kind, .z a.r0, .l a.ctx, .l a.tr, .z a.left, .z b.kind, .z b.r0, .l b.ctx, .l b.tr, .z b.left]) : sT_esame.asks sP_esame (fun ρ e => e.D ρ = sF_esame [.z a.kind, .z a.r0, .l a.ctx, .l a.tr, .z a.left, .z b.kind, .z b.r0, .l b.ctx, .l b.tr, .z b.left]) ρ fun _ _ => False := by
  simp only [varsD, varD, List.cons.injEq, Dt.z.injEq, Dt.l.injEq, b2i_eq_iff, Nat.reduceAdd, and_true] at g
  simp only [sT_esame, sP_esame, sF_ebegins, sV_ebegins, sF_esame, sV_esame, Tr.asks, upd_same, okDs, okD, eqs, E.I, E.B, E.L, E.R, E.D, E.vs, dI, dB, dL, varD, varsD, List.getElem?_cons_zero, List.getElem?_cons_succ, List.cons_append, List.nil_append, Nat.zero_add, Nat.add_zero, Nat.reduceAdd, and_true, true_and, b2i_one, -eq_self, Ins.eta, Prog.eta, insAt_mk, Mem.eta, Mach.eta, g]
  refine ⟨fun c0 => ?_, fun c0 => ?_⟩
  refine ⟨fun c1 => ?_, fun c1 => ?_⟩
  refine ⟨fun c2 => ?_, fun c2 => ?_⟩
  refine ⟨fun c3 => ?_, fun c3 => ?_⟩
  intro e; (try simp only [e, Ins.eta, Prog.eta, insAt_mk, Mem.eta, Mach.eta, -eq_self]); clear e
  refine ⟨fun c4 => ?_, fun c4 => ?_⟩
  · (unfold esame; simp_all)
  · (unfold esame; simp_all)
  · (unfold esame; simp_all)
  · (unfold esame; simp_all)
  · (unfold esame; simp_all)
  · (unfold esame; simp_all)
theorem sK_esame {sp : Spec} {key : Nat} (hF : sp.F key = sF_esame) (hP : sp.pre key = fun _ => True := by rfl) : SmOk Try.prog sp (sM_esame key) :=
  fun_ok (s := sM_esame key) hF hP (by kernel_rfl) tysok_MoF (smc (sK_ebegins rfl) sm0) Try.func15 (fnc Try.func28 fn0) sR_esame (.inr (.inr rfl)) (fun x0 gx0 x1 gx1 x2 gx2 x3 gx3 x4 gx4 x5 gx5 x6 gx6 x7 gx7 x8 gx8 x9 gx9 hp ρ g => sX_esame ⟨x0, x1, x2, x3, x4⟩ ⟨gx0, gx1, gx2, gx3, gx4⟩ ⟨x5, x6, x7, x8, x9⟩ ⟨gx5, gx6, gx7, gx8, gx9⟩ ρ g)
def sM_elike (key : Nat) : Sm := ⟨14, key, [.agg kOut, .agg kOut], [.one .bool], false⟩
def sV_elike (a : Out) (b : Out) : List Dt := [.z (b2i (elike a b))]
def sF_elike : List Dt → List Dt
  | [.z x0, .z x1, .l x2, .l x3, .z x4, .z x5, .z x6, .l x7, .l x8, .z x9] => sV_elike ⟨x0, x1, x2, x3, x4⟩ ⟨x5, x6, x7, x8, x9⟩
  | _ => []
def sT_elike : Tr :=
(.br (.eq (.var 0) (.var 5))
(.br (.eq (.len (.lvar 3)) (.len (.lvar 8)))
(.call 0 [.bool] (.consl (.lvar 3) (.consl (.lvar 8) .nil)) 10
(.br (.bvar 10)
(.br (.eq (.var 0) (.lit 1))
(.br (.eq (.var 1) (.var 6))
(.leaf (.consb (.leq (.lvar 2) (.lvar 7)) .nil))
(.leaf (.consb (.tt false) .nil)))
(.leaf (.consb (.tt true) .nil)))
(.leaf (.consb (.tt false) .nil))))
(.leaf (.consb (.tt false) .nil)))
(.leaf (.consb (.tt false) .nil)))
def sP_elike : Spec := ⟨fun k => match k with | 0 => sF_ebegins | _ => fun _ => [], fun k => match k with | _ => fun _ => True⟩
set_option maxRecDepth 100000 in
theorem sR_elike : treeIs tys_MoF [sM_ebegins 0] [(28, Try.f28, [], [])] [(999999, [])] [] 200 Try.f14 [.agg kOut, .agg kOut] [.one .bool] false [.int .i8, .int .u64, .list [some .u8], .list [some .i64, some .u64, some .i64, some .u64, some .u64, some .u64, some .u64, some .u64], .int .i64, .int .i8, .int .u64, .list [some .u8], .list [some .i64, some .u64, some .i64, some .u64, some .u64, some .u64, some .u64, some .u64], .int .i64] sT_elike := ⟨by kernel_rfl, by kernel_rfl, by kernel_rfl⟩
set_option maxRecDepth 100000 in
set_option maxHeartbeats 8000000 in
theorem sX_elike (a : Out) (ha : Out.ok a) (b : Out) (hb : Out.ok b) (ρ : Env) (g : varsD ρ 0 [.int .i8, .int .u64, .list [some .u8], .list [some .i64, some .u64, some .i64, some .u64, some .u64, some .u64, some .u64, some .u64], .int .i64, .int .i8, .int .u64, .list [some .u8], .list [some .i64, some .u64, some .i64, some .u64, some .u64, some .u64, some .u64, some .u64], .int .i64] = [.z a.kind, .z a.r0, .l a.ctx, .l a.tr, .z a.left, .z b.kind, .z b.r0, .l b.ctx, .l b.tr, .z b.left]) : sT_elike.asks sP_elike (fun ρ e => e.D ρ = sF_elike [.z a.kind, .z a.r0, .l a.ctx, .l a.tr, .z a.left, .z b.kind, .z b.r0, .l b.ctx, .l b.tr, .z b.left]) ρ fun _ _ => False := by
  simp only [varsD, varD, List.cons.injEq, Dt.z.injEq, Dt.l.injEq, b2i_eq_iff, Nat.reduceAdd, and_true] at g
  simp only [sT_elike, sP_elike, sF_ebegins, sV_ebegins, sF_elike, sV_elike, Tr.asks, upd_same, okDs, okD, eqs, E.I, E.B, E.L, E.R, E.D, E.vs, dI, dB, dL, varD, varsD, List.getElem?_cons_zero, List.getElem?_cons_succ, List.cons_append, List.nil_append, Nat.zero_add, Nat.add_zero, Nat.reduceAdd, and_true, true_and, b2i_one, -eq_self, Ins.eta, Prog.eta, insAt_mk, Mem.eta, Mach.eta, g]
  refine ⟨fun c0 => ?_, fun c0 => ?_⟩
  refine ⟨fun c1 => ?_, fun c1 => ?_⟩
  intro e; (try simp only [e, Ins.eta, Prog.eta, insAt_mk, Mem.eta, Mach.eta, -eq_self]); clear e
  refine ⟨fun c2 => ?_, fun c2 => ?_⟩
  refine ⟨fun c3 => ?_, fun c3 => ?_⟩
  refine ⟨fun c4 => ?_, fun c4 => ?_⟩
  · (unfold elike; simp_all)
  · (unfold elike; simp_all)
  · (unfold elike; simp_all)
  · (unfold elike; simp_all)
  · (unfold elike; simp_all)
  · (unfold elike; simp_all)
theorem sK_elike {sp : Spec} {key : Nat} (hF : sp.F key = sF_elike) (hP : sp.pre key = fun _ => True := by rfl) : SmOk Try.prog sp (sM_elike key) :=
  fun_ok (s := sM_elike key) hF hP (by kernel_rfl) tysok_MoF (smc (sK_ebegins rfl) sm0) Try.func14 (fnc Try.func28 fn0) sR_elike (.inr (.inr rfl)) (fun x0 gx0 x1 gx1 x2 gx2 x3 gx3 x4 gx4 x5 gx5 x6 gx6 x7 gx7 x8 gx8 x9 gx9 hp ρ g => sX_elike ⟨x0, x1, x2, x3, x4⟩ ⟨gx0, gx1, gx2, gx3, gx4⟩ ⟨x5, x6, x7, x8, x9⟩ ⟨gx5, gx6, gx7, gx8, gx9⟩ ρ g)
def sM_lwakes (key : Nat) : Sm := ⟨10, key, [], [.one .bool], false⟩
def sF_lwakes : List Dt → List Dt
  | [] => [.z (b2i true)]
  | _ => []
def sT_lwakes : Tr :=
(.call 0 (kOut ++ [.int .i64]) (.cons (.lit 0) (.consl (.lcat (.lapp .lnil (.cons (.lit 0) (.cons (.lit 11) (.cons (.lit 64) (.cons (.lit 0) (.consb (.tt false) (.cons (.lit 0) (.cons (.lit 0) (.cons (.lit 0) (.cons (.lit 5) .nil)))))))))) (.lapp .lnil (.cons (.lit 6) (.cons (.lit 0) (.cons (.lit 0) (.cons (.lit 0) (.consb (.tt false) (.cons (.lit 0) (.cons (.lit 0) (.cons (.lit 0) (.cons (.lit 0) .nil))))))))))) (.consl .lnil (.consl .lnil (.cons (.lit 9) .nil))))) 0
(.call 0 (kOut ++ [.int .i64]) (.cons (.lit 0) (.consl (.ldrop (.lcat (.lapp .lnil (.cons (.lit 0) (.cons (.lit 11) (.cons (.lit 64) (.cons (.lit 0) (.consb (.tt false) (.cons (.lit 0) (.cons (.lit 0) (.cons (.lit 0) (.cons (.lit 5) .nil)))))))))) (.lapp .lnil (.cons (.lit 6) (.cons (.lit 0) (.cons (.lit 0) (.cons (.lit 0) (.consb (.tt false) (.cons (.lit 0) (.cons (.lit 0) (.cons (.lit 0) (.cons (.lit 0) .nil))))))))))) (.lit 1)) (.consl .lnil (.consl .lnil (.cons (.lit 9) .nil))))) 6
(.call 0 (kOut ++ [.int .i64]) (.cons (.lit 0) (.consl (.lcat (.lapp .lnil (.cons (.lit 5) (.cons (.lit 0) (.cons (.lit 0) (.cons (.lit 0) (.consb (.tt false) (.cons (.lit 0) (.cons (.lit 0) (.cons (.lit 0) (.cons (.lit 0) .nil)))))))))) (.lapp .lnil (.cons (.lit 6) (.cons (.lit 0) (.cons (.lit 0) (.cons (.lit 0) (.consb (.tt false) (.cons (.lit 0) (.cons (.lit 0) (.cons (.lit 0) (.cons (.lit 0) .nil))))))))))) (.consl .lnil (.consl .lnil (.cons (.lit 9) .nil))))) 12
(.br (.eq (.var 5) (.lit 0))
(.br (.eq (.var 0) (.lit 1))
(.br (.eq (.var 1) (.lit 5))
(.br (.eq (.var 4) (.lit 7))
(.br (.eq (.var 11) (.lit 0))
(.br (.eq (.var 6) (.lit 3))
(.br (.eq (.var 17) (.lit 0))
(.leaf (.consb (.eq (.var 12) (.lit 2)) .nil))
(.leaf (.consb (.tt false) .nil)))
(.leaf (.consb (.tt false) .nil)))
(.leaf (.consb (.tt false) .nil)))
(.leaf (.consb (.tt false) .nil)))
(.leaf (.consb (.tt false) .nil)))
(.leaf (.consb (.tt false) .nil)))
(.leaf (.consb (.tt false) .nil))))))
def sP_lwakes : Spec := ⟨fun k => match k with | 0 => sF_mrun | _ => fun _ => [], fun k => match k with | 0 => sQ_mrun | _ => fun _ => True⟩
set_option maxRecDepth 100000 in
theorem sR_lwakes : treeIs tys_MoF [sM_mrun 0] [] [(999999, [])] [] 200 Try.f10 [] [.one .bool] false [] sT_lwakes := ⟨by kernel_rfl, by kernel_rfl, by kernel_rfl⟩
set_option maxRecDepth 100000 in
set_option maxHeartbeats 8000000 in
theorem sX_lwakes  (ρ : Env) (g : varsD ρ 0 [] = []) : sT_lwakes.asks sP_lwakes (fun ρ e => e.D ρ = sF_lwakes []) ρ fun _ _ => False := by
  simp only [sT_lwakes, sP_lwakes, kOut, sF_mrun, sV_mrun, sF_lwakes, sQ_mrun, Tr.asks, upd_same, okDs, okD, eqs, E.I, E.B, E.L, E.R, E.D, E.vs, dI, dB, dL, varD, varsD, List.getElem?_cons_zero, List.getElem?_cons_succ, List.cons_append, List.nil_append, Nat.zero_add, Nat.add_zero, Nat.reduceAdd, and_true, true_and, b2i_one, -eq_self, Ins.eta, Prog.eta, insAt_mk, Mem.eta, Mach.eta]
  refine ⟨?_, ?_⟩
  · exact ⟨⟨by decide, by decide⟩, by decide⟩
  intro e; have e : ρ.i 0 = 1 ∧ ρ.i 1 = 5 ∧ True ∧ True ∧ ρ.i 4 = 7 ∧ ρ.i 5 = 0 := ⟨e.1.trans (by kernel_rfl), e.2.1.trans (by kernel_rfl), trivial, trivial, e.2.2.2.2.1.trans (by kernel_rfl), e.2.2.2.2.2.trans (by kernel_rfl)⟩; (try simp only [e, Ins.eta, Prog.eta, insAt_mk, Mem.eta, Mach.eta, -eq_self]); clear e
  refine ⟨?_, ?_⟩
  · exact ⟨⟨by decide, by decide⟩, by decide⟩
  intro e; have e : ρ.i 6 = 3 ∧ ρ.i 7 = 0 ∧ True ∧ True ∧ ρ.i 10 = 8 ∧ ρ.i 11 = 0 := ⟨e.1.trans (by kernel_rfl), e.2.1.trans (by kernel_rfl), trivial, trivial, e.2.2.2.2.1.trans (by kernel_rfl), e.2.2.2.2.2.trans (by kernel_rfl)⟩; (try simp only [e, Ins.eta, Prog.eta, insAt_mk, Mem.eta, Mach.eta, -eq_self]); clear e
  refine ⟨?_, ?_⟩
  · exact ⟨⟨by decide, by decide⟩, by decide⟩
  intro e; have e : ρ.i 12 = 2 ∧ ρ.i 13 = 0 ∧ True ∧ True ∧ ρ.i 16 = 8 ∧ ρ.i 17 = 0 := ⟨e.1.trans (by kernel_rfl), e.2.1.trans (by kernel_rfl), trivial, trivial, e.2.2.2.2.1.trans (by kernel_rfl), e.2.2.2.2.2.trans (by kernel_rfl)⟩; (try simp only [e, Ins.eta, Prog.eta, insAt_mk, Mem.eta, Mach.eta, -eq_self]); clear e
  refine ⟨fun c0 => ?_, fun c0 => ?_⟩
  refine ⟨fun c1 => ?_, fun c1 => ?_⟩
  refine ⟨fun c2 => ?_, fun c2 => ?_⟩
  refine ⟨fun c3 => ?_, fun c3 => ?_⟩
  refine ⟨fun c4 => ?_, fun c4 => ?_⟩
  refine ⟨fun c5 => ?_, fun c5 => ?_⟩
  refine ⟨fun c6 => ?_, fun c6 => ?_⟩
  · first | rfl | cases c6
  · first | rfl | cases c6
  · first | rfl | cases c5
  · first | rfl | cases c4
  · first | rfl | cases c3
  · first | rfl | cases c2
  · first | rfl | cases c1
  · first | rfl | cases c0
theorem sK_lwakes {sp : Spec} {key : Nat} (hF : sp.F key = sF_lwakes) (hP : sp.pre key = fun _ => True := by rfl) : SmOk Try.prog sp (sM_lwakes key) :=
  fun_ok (s := sM_lwakes key) hF hP (by kernel_rfl) tysok_MoF (smc (sK_mrun rfl rfl) sm0) Try.func10 fn0 sR_lwakes (.inl rfl) (fun  hp ρ g => sX_lwakes ρ g)
def sM_jargs (key : Nat) : Sm := ⟨27, key, [.one (.int .i64)], [.one (.int .i64)], false⟩
def sV_jargs (n : Int) : List Dt := [.z (iargs n)]
def sF_jargs : List Dt → List Dt
  | [.z x0] => sV_jargs x0
  | _ => []
def sT_jargs : Tr :=
(.br (.lt (.var 0) (.lit 0))
(.leaf (.cons (.lit 0) .nil))
(.br (.lt (.var 0) (.lit 16))
(.leaf (.cons (.bin .rem .i64 (.var 0) (.lit 6)) .nil))
(.leaf (.cons (.lit 0) .nil))))
def sP_jargs : Spec := ⟨fun k => match k with | _ => fun _ => [], fun k => match k with | _ => fun _ => True⟩
set_option maxRecDepth 100000 in
theorem sR_jargs : treeIs tys_MoF [] [] [] [] 200 Try.f27 [.one (.int .i64)] [.one (.int .i64)] false [.int .i64] sT_jargs := ⟨by kernel_rfl, by kernel_rfl, by kernel_rfl⟩
set_option maxRecDepth 100000 in
set_option maxHeartbeats 8000000 in
theorem sX_jargs (n : Int) (hn : inK .i64 n = true) (ρ : Env) (g : varsD ρ 0 [.int .i64] = [.z n]) : sT_jargs.asks sP_jargs (fun ρ e => e.D ρ = sF_jargs [.z n]) ρ fun _ _ => False := by
  simp only [varsD, varD, List.cons.injEq, Dt.z.injEq, Dt.l.injEq, b2i_eq_iff, Nat.reduceAdd, and_true] at g
  simp only [sT_jargs, sP_jargs, sF_jargs, sV_jargs, Tr.asks, upd_same, okDs, okD, eqs, E.I, E.B, E.L, E.R, E.D, E.vs, dI, dB, dL, varD, varsD, List.getElem?_cons_zero, List.getElem?_cons_succ, List.cons_append, List.nil_append, Nat.zero_add, Nat.add_zero, Nat.reduceAdd, and_true, true_and, b2i_one, -eq_self, Ins.eta, Prog.eta, insAt_mk, Mem.eta, Mach.eta, g]
  refine ⟨fun c0 => ?_, fun c0 => ?_⟩
  · (unfold iargs; simp_all <;> omega)
  refine ⟨fun c1 => ?_, fun c1 => ?_⟩
  · (unfold iargs; simp_all <;> omega)
  · (unfold iargs; simp_all <;> omega)
theorem sK_jargs {sp : Spec} {key : Nat} (hF : sp.F key = sF_jargs) (hP : sp.pre key = fun _ => True := by rfl) : SmOk Try.prog sp (sM_jargs key) :=
  fun_ok (s := sM_jargs key) hF hP (by kernel_rfl) tysok_MoF (sm0) Try.func27 fn0 sR_jargs (.inl rfl) (fun x0 gx0 hp ρ g => sX_jargs x0 gx0 ρ g)
end Go.Proofs.Ytghiofgomcihcaa

