/- Contracts of sum and Do of package bounds, by the symbolic run. -/
import Derived.Test.YtcfnglbcgkappaaGreatXbZ
import Derived.Test.YtcfnglbcgkappaaGreatBdT
import Derived.Test.YtcfnglbcgkappaaGreatProg
import Derived.Laws.Externs
set_option linter.unusedVariables false
set_option linter.unusedSimpArgs false
namespace Go.Proofs.YtcfnglbcgkappaaGreat
open Go.RowKit Go.ChangeShapes Go.WideShapes

def okop (op l : Int) : Bool := (decide (0 ≤ op) && decide (op ≤ 12)) && zlong l
theorem u64_inK {x : Int} (h : 0 ≤ x ∧ x ≤ 18446744073709551615) : inK .u64 x = true := by
  rw [inK_iff]; simpa [IntKind.min, IntKind.max, IntKind.signed, IntKind.bits] using h
theorem i64_inK {x : Int} (h : -9223372036854775808 ≤ x ∧ x ≤ 9223372036854775807) : inK .i64 x = true := by
  rw [inK_iff]; simpa [IntKind.min, IntKind.max, IntKind.signed, IntKind.bits] using h
def tys_XbC : List (Nat × TI) := [(2, ⟨false, 1, [.int .i64 (.lit 0)], [], none, some .i64, false, false, none, 8, false⟩),
 (23, ⟨false, 1, [.int .u64 (.lit 0)], [], none, some .u64, false, false, none, 8, false⟩),
 (25, ⟨true, 4, [.int .u64 (.lit 0), .int .u64 (.lit 0), .int .i64 (.lit 0), .int .i64 (.lit 0)], [(0, 23), (1, 23), (2, 2), (3, 2)], none, none, false, false, none, 32, false⟩)]
set_option maxRecDepth 100000 in
theorem tysck_XbC : (tys_XbC.all fun p => ckTI Tryz.prog p.1 p.2) = true := by kernel_rfl
theorem tysne_XbC : (tys_XbC.all fun p => !p.2.eqok) = true := by kernel_rfl
theorem tysok_XbC : ∀ t i, (t, i) ∈ tys_XbC → TIok Tryz.prog t i := by
  intro t i h
  have h1 := all_at (f := fun _ i => !i.eqok) tysne_XbC h
  exact TIok_of (all_at (f := ckTI Tryz.prog) tysck_XbC h) (fun he => by simp [he] at h1) (fun he => by simp [he] at h1)
def sM_add64 (key : Nat) : Sm := ⟨147, key, [.one (.int .u64), .one (.int .u64), .one (.lit .u64 0)], [.one (.int .u64), .one (.int .u64)], true⟩
def sV_add64 (x : Int) (y : Int) : List Dt := [.z ((x + y) % 18446744073709551616), .z ((x + y) / 18446744073709551616)]
def sF_add64 : List Dt → List Dt
  | [.z x0, .z x1] => sV_add64 x0 x1
  | _ => []
theorem sX_add64 (x : Int) (hx : inK .u64 x = true) (y : Int) (hy : inK .u64 y = true) : (∀ w, (callFunc 147 #[.int .u64 x, .int .u64 y, .int .u64 0]).run Tryz.prog w = .ok (.value (.tuple #[.int .u64 ((x + y) % 18446744073709551616), .int .u64 ((x + y) / 18446744073709551616)])) w) ∧ valIn (.tuple #[.int .u64 ((x + y) % 18446744073709551616), .int .u64 ((x + y) / 18446744073709551616)]) = true := by
  have gx := inK_u64 hx
  have gy := inK_u64 hy
  refine ⟨fun w => ?_, ?_⟩
  · rw [run_callFunc_extern Tryz.func147 (by kernel_rfl) (by kernel_rfl) (by kernel_rfl) (e := add64Entry) (by kernel_rfl), run_add64 x y 0 gx.1 gy.1 (by omega) (by omega)]
    simp only [Result.andThen, Int.add_zero]
  · have h1 : inK .u64 ((x + y) % 18446744073709551616) = true := u64_inK (by omega)
    have h2 : inK .u64 ((x + y) / 18446744073709551616) = true := u64_inK (by omega)
    simp [valIn, partIn, cellIn, h1, h2]
theorem sK_add64 {sp : Spec} {key : Nat} (hF : sp.F key = sF_add64) : SmOk Tryz.prog sp (sM_add64 key) := by
  refine SmOk.pure hF rfl rfl fun xs vals w h => ?_
  obtain ⟨_, _, _, rfl, ⟨x0, rfl, rfl, gx0⟩, h⟩ := h
  obtain ⟨_, _, _, rfl, ⟨x1, rfl, rfl, gx1⟩, h⟩ := h
  obtain ⟨_, _, _, rfl, ⟨rfl, rfl⟩, h⟩ := h
  obtain ⟨rfl, rfl⟩ := h
  have q := sX_add64 x0 gx0 x1 gx1
  refine ⟨_, .inl (q.1 w), ?_, fun ρ v0 nid j he => ?_⟩
  · have q2 := q.2
    simp [valIn, partIn, cellIn] at q2
    simp [sM_add64, sF_add64, sV_add64, List.flatMap_cons, List.flatMap_nil, Sh.cks, List.append_nil, List.cons_append, List.nil_append, b2i_one, resIn, q2]
  · simp only [sM_add64, sF_add64, sV_add64, List.flatMap_cons, List.flatMap_nil, Sh.cks, List.append_nil, List.cons_append, List.nil_append, b2i_one, eqs, dI, dB, List.getElem?_cons_zero, List.getElem?_cons_succ, Nat.zero_add, Nat.add_zero, Nat.reduceAdd, and_true] at he
    simp [sM_add64, sF_add64, sV_add64, List.flatMap_cons, List.flatMap_nil, Sh.cks, List.append_nil, List.cons_append, List.nil_append, b2i_one, resVof, resParts, resCells, V.den, C.den, denL, den0, den0L, E.I, E.B, he]
def sM_len (key : Nat) : Sm := ⟨107, key, [.one (.int .u64)], [.one (.int .i64)], false⟩
def sV_len (x : Int) : List Dt := [.z ((blenN x.toNat : Int))]
def sF_len : List Dt → List Dt
  | [.z x0] => sV_len x0
  | _ => []
theorem sX_len (x : Int) (hx : inK .u64 x = true) : (∀ w, Calls Tryz.prog 107 #[.int .u64 x] w fun e w' => e = .returned (.int .i64 ((blenN x.toNat : Int))) ∧ Ext w w') ∧ valIn (.int .i64 ((blenN x.toNat : Int))) = true := by
  have g := inK_u64 hx
  have hb : blenN x.toNat ≤ 64 := blen_le (by omega)
  have h : inK .i64 (blenN x.toNat : Int) = true := i64_inK (by omega)
  exact ⟨fun w => b_len x g.1 g.2 w w (Ext.refl w), h⟩
theorem sK_len {sp : Spec} {key : Nat} (hF : sp.F key = sF_len) : SmOk Tryz.prog sp (sM_len key) := by
  refine SmOk.pure hF rfl rfl fun xs vals w h => ?_
  obtain ⟨_, _, _, rfl, ⟨x0, rfl, rfl, gx0⟩, h⟩ := h
  obtain ⟨rfl, rfl⟩ := h
  have q := sX_len x0 gx0
  refine ⟨_, .inr ⟨run_enter Tryz.func107 (by kernel_rfl) (by kernel_rfl) _ w, q.1 w⟩, ?_, fun ρ v0 nid j he => ?_⟩
  · have q2 := q.2
    simp [valIn, partIn, cellIn] at q2
    simp [sM_len, sF_len, sV_len, List.flatMap_cons, List.flatMap_nil, Sh.cks, List.append_nil, List.cons_append, List.nil_append, b2i_one, resIn, q2]
  · simp only [sM_len, sF_len, sV_len, List.flatMap_cons, List.flatMap_nil, Sh.cks, List.append_nil, List.cons_append, List.nil_append, b2i_one, eqs, dI, dB, List.getElem?_cons_zero, List.getElem?_cons_succ, Nat.zero_add, Nat.add_zero, Nat.reduceAdd, and_true] at he
    simp [sM_len, sF_len, sV_len, List.flatMap_cons, List.flatMap_nil, Sh.cks, List.append_nil, List.cons_append, List.nil_append, b2i_one, resVof, resParts, resCells, V.den, C.den, denL, den0, den0L, E.I, E.B, he]
def sM_lz (key : Nat) : Sm := ⟨87, key, [.one (.int .u64)], [.one (.int .i64)], false⟩
def sV_lz (x : Int) : List Dt := [.z (64 - (blenN x.toNat : Int))]
def sF_lz : List Dt → List Dt
  | [.z x0] => sV_lz x0
  | _ => []
theorem sX_lz (x : Int) (hx : inK .u64 x = true) : (∀ w, Calls Tryz.prog 87 #[.int .u64 x] w fun e w' => e = .returned (.int .i64 (64 - (blenN x.toNat : Int))) ∧ Ext w w') ∧ valIn (.int .i64 (64 - (blenN x.toNat : Int))) = true := by
  have g := inK_u64 hx
  have hb : blenN x.toNat ≤ 64 := blen_le (by omega)
  have h : inK .i64 (64 - (blenN x.toNat : Int)) = true := i64_inK (by omega)
  exact ⟨fun w => b_lz x g.1 g.2 w w (Ext.refl w), h⟩
theorem sK_lz {sp : Spec} {key : Nat} (hF : sp.F key = sF_lz) : SmOk Tryz.prog sp (sM_lz key) := by
  refine SmOk.pure hF rfl rfl fun xs vals w h => ?_
  obtain ⟨_, _, _, rfl, ⟨x0, rfl, rfl, gx0⟩, h⟩ := h
  obtain ⟨rfl, rfl⟩ := h
  have q := sX_lz x0 gx0
  refine ⟨_, .inr ⟨run_enter Tryz.func87 (by kernel_rfl) (by kernel_rfl) _ w, q.1 w⟩, ?_, fun ρ v0 nid j he => ?_⟩
  · have q2 := q.2
    simp [valIn, partIn, cellIn] at q2
    simp [sM_lz, sF_lz, sV_lz, List.flatMap_cons, List.flatMap_nil, Sh.cks, List.append_nil, List.cons_append, List.nil_append, b2i_one, resIn, q2]
  · simp only [sM_lz, sF_lz, sV_lz, List.flatMap_cons, List.flatMap_nil, Sh.cks, List.append_nil, List.cons_append, List.nil_append, b2i_one, eqs, dI, dB, List.getElem?_cons_zero, List.getElem?_cons_succ, Nat.zero_add, Nat.add_zero, Nat.reduceAdd, and_true] at he
    simp [sM_lz, sF_lz, sV_lz, List.flatMap_cons, List.flatMap_nil, Sh.cks, List.append_nil, List.cons_append, List.nil_append, b2i_one, resVof, resParts, resCells, V.den, C.den, denL, den0, den0L, E.I, E.B, he]
def sM_sum (key : Nat) : Sm := ⟨108, key, [.agg kRg, .agg kRg, .one .bool], [.agg kRg], false⟩
def sV_sum (a : Rg) (b : Rg) (t : Bool) : List Dt := [.z ((xsum t a b).ul), .z ((xsum t a b).uh), .z ((xsum t a b).sl), .z ((xsum t a b).sh)]
def sF_sum : List Dt → List Dt
  | [.z x0, .z x1, .z x2, .z x3, .z x4, .z x5, .z x6, .z x7, .z x8] => sV_sum ⟨x0, x1, x2, x3⟩ ⟨x4, x5, x6, x7⟩ (x8 == 1)
  | _ => []
def sT_sum : Tr :=
(.call 0 (kRg) .nil 9
(.br (.bvar 8)
(.br (.lt (.var 0) (.var 5))
(.call 3 ([.int .i64] ++ [.bool]) (.cons (.var 2) (.cons (.var 7) .nil)) 13
(.call 3 ([.int .i64] ++ [.bool]) (.cons (.var 3) (.cons (.var 6) .nil)) 15
(.br (.bvar 14)
(.br (.bvar 16)
(.leaf (.vs 9 2 (.cons (.var 13) (.cons (.var 15) .nil))))
(.leaf (.vs 9 4 .nil)))
(.leaf (.vs 9 4 .nil)))))
(.call 3 ([.int .i64] ++ [.bool]) (.cons (.var 2) (.cons (.var 7) .nil)) 13
(.call 3 ([.int .i64] ++ [.bool]) (.cons (.var 3) (.cons (.var 6) .nil)) 15
(.br (.bvar 14)
(.br (.bvar 16)
(.leaf (.cons (.bin .sub .u64 (.var 0) (.var 5)) (.cons (.bin .sub .u64 (.var 1) (.var 4)) (.cons (.var 13) (.cons (.var 15) .nil)))))
(.leaf (.cons (.bin .sub .u64 (.var 0) (.var 5)) (.cons (.bin .sub .u64 (.var 1) (.var 4)) (.vs 11 2 .nil)))))
(.leaf (.cons (.bin .sub .u64 (.var 0) (.var 5)) (.cons (.bin .sub .u64 (.var 1) (.var 4)) (.vs 11 2 .nil))))))))
(.call 1 ([.int .u64] ++ [.int .u64]) (.cons (.var 1) (.cons (.var 5) .nil)) 13
(.br (.eq (.var 14) (.lit 0))
(.call 2 ([.int .i64] ++ [.bool]) (.cons (.var 2) (.cons (.var 6) .nil)) 15
(.call 2 ([.int .i64] ++ [.bool]) (.cons (.var 3) (.cons (.var 7) .nil)) 17
(.br (.bvar 16)
(.br (.bvar 18)
(.leaf (.cons (.bin .add .u64 (.var 0) (.var 4)) (.cons (.var 13) (.cons (.var 15) (.cons (.var 17) .nil)))))
(.leaf (.cons (.bin .add .u64 (.var 0) (.var 4)) (.cons (.var 13) (.vs 11 2 .nil)))))
(.leaf (.cons (.bin .add .u64 (.var 0) (.var 4)) (.cons (.var 13) (.vs 11 2 .nil)))))))
(.call 2 ([.int .i64] ++ [.bool]) (.cons (.var 2) (.cons (.var 6) .nil)) 15
(.call 2 ([.int .i64] ++ [.bool]) (.cons (.var 3) (.cons (.var 7) .nil)) 17
(.br (.bvar 16)
(.br (.bvar 18)
(.leaf (.vs 9 2 (.cons (.var 15) (.cons (.var 17) .nil))))
(.leaf (.vs 9 4 .nil)))
(.leaf (.vs 9 4 .nil)))))))))
def sP_sum : Spec := ⟨fun k => match k with | 0 => sF_all | 1 => sF_add64 | 2 => sF_plus | 3 => sF_minus | _ => fun _ => [], fun k => match k with | _ => fun _ => True⟩
set_option maxRecDepth 100000 in
theorem sR_sum : treeIs tys_XbC [sM_all 0, sM_add64 1, sM_plus 2, sM_minus 3] [] [] 200 Tryz.f108 [.agg kRg, .agg kRg, .one .bool] [.agg kRg] false [.int .u64, .int .u64, .int .i64, .int .i64, .int .u64, .int .u64, .int .i64, .int .i64, .bool] sT_sum := ⟨by kernel_rfl, by kernel_rfl, by kernel_rfl⟩
set_option maxRecDepth 100000 in
set_option maxHeartbeats 8000000 in
theorem sX_sum (a : Rg) (ha : Rg.ok a) (b : Rg) (hb : Rg.ok b) (t : Bool) (ρ : Env) (g : varsD ρ 0 [.int .u64, .int .u64, .int .i64, .int .i64, .int .u64, .int .u64, .int .i64, .int .i64, .bool] = [.z a.ul, .z a.uh, .z a.sl, .z a.sh, .z b.ul, .z b.uh, .z b.sl, .z b.sh, .z (b2i t)]) : sT_sum.asks sP_sum (fun ρ e => e.D ρ = sF_sum [.z a.ul, .z a.uh, .z a.sl, .z a.sh, .z b.ul, .z b.uh, .z b.sl, .z b.sh, .z (b2i t)]) ρ fun _ _ => False := by
  simp only [varsD, varD, List.cons.injEq, Dt.z.injEq, Dt.l.injEq, b2i_eq_iff, Nat.reduceAdd, and_true] at g
  simp only [sT_sum, sP_sum, kRg, sF_all, sF_add64, sF_plus, sF_minus, sV_add64, sV_plus, sV_minus, sF_sum, sV_sum, Tr.asks, upd_same, okDs, okD, eqs, E.I, E.B, E.L, E.R, E.D, E.vs, dI, dB, dL, varD, varsD, List.getElem?_cons_zero, List.getElem?_cons_succ, List.cons_append, List.nil_append, Nat.zero_add, Nat.add_zero, Nat.reduceAdd, and_true, true_and, b2i_one, -eq_self, Pi.eta, Pu.eta, Rg.eta, g]
  intro e; (try simp only [e, Pi.eta, Pu.eta, Rg.eta, -eq_self]); clear e
  refine ⟨fun c0 => ?_, fun c0 => ?_⟩
  refine ⟨fun c1 => ?_, fun c1 => ?_⟩
  intro e; (try simp only [e, Pi.eta, Pu.eta, Rg.eta, -eq_self]); clear e
  intro e; (try simp only [e, Pi.eta, Pu.eta, Rg.eta, -eq_self]); clear e
  refine ⟨fun c2 => ?_, fun c2 => ?_⟩
  refine ⟨fun c3 => ?_, fun c3 => ?_⟩
  (subst c0; exact agg4 (dif_u0 c1).1 (dif_u0 c1).2 (dif_s1 c2 c3).1 (dif_s1 c2 c3).2)
  (subst c0; exact agg4 (dif_u0 c1).1 (dif_u0 c1).2 (dif_s0 (.inr c3)).1 (dif_s0 (.inr c3)).2)
  (subst c0; exact agg4 (dif_u0 c1).1 (dif_u0 c1).2 (dif_s0 (.inl c2)).1 (dif_s0 (.inl c2)).2)
  intro e; (try simp only [e, Pi.eta, Pu.eta, Rg.eta, -eq_self]); clear e
  intro e; (try simp only [e, Pi.eta, Pu.eta, Rg.eta, -eq_self]); clear e
  refine ⟨fun c4 => ?_, fun c4 => ?_⟩
  refine ⟨fun c5 => ?_, fun c5 => ?_⟩
  (subst c0; exact agg4 (dif_u1 c1).1 (dif_u1 c1).2 (dif_s1 c4 c5).1 (dif_s1 c4 c5).2)
  (subst c0; exact agg4 (dif_u1 c1).1 (dif_u1 c1).2 (dif_s0 (.inr c5)).1 (dif_s0 (.inr c5)).2)
  (subst c0; exact agg4 (dif_u1 c1).1 (dif_u1 c1).2 (dif_s0 (.inl c4)).1 (dif_s0 (.inl c4)).2)
  intro e; (try simp only [e, Pi.eta, Pu.eta, Rg.eta, -eq_self]); clear e
  refine ⟨fun c6 => ?_, fun c6 => ?_⟩
  intro e; (try simp only [e, Pi.eta, Pu.eta, Rg.eta, -eq_self]); clear e
  intro e; (try simp only [e, Pi.eta, Pu.eta, Rg.eta, -eq_self]); clear e
  refine ⟨fun c7 => ?_, fun c7 => ?_⟩
  refine ⟨fun c8 => ?_, fun c8 => ?_⟩
  (subst c0; exact agg4 (sum_u1 ha hb c6).1 (sum_u1 ha hb c6).2 (sum_s1 c7 c8).1 (sum_s1 c7 c8).2)
  (subst c0; exact agg4 (sum_u1 ha hb c6).1 (sum_u1 ha hb c6).2 (sum_s0 (.inr c8)).1 (sum_s0 (.inr c8)).2)
  (subst c0; exact agg4 (sum_u1 ha hb c6).1 (sum_u1 ha hb c6).2 (sum_s0 (.inl c7)).1 (sum_s0 (.inl c7)).2)
  intro e; (try simp only [e, Pi.eta, Pu.eta, Rg.eta, -eq_self]); clear e
  intro e; (try simp only [e, Pi.eta, Pu.eta, Rg.eta, -eq_self]); clear e
  refine ⟨fun c9 => ?_, fun c9 => ?_⟩
  refine ⟨fun c10 => ?_, fun c10 => ?_⟩
  (subst c0; exact agg4 (sum_u0 ha hb c6).1 (sum_u0 ha hb c6).2 (sum_s1 c9 c10).1 (sum_s1 c9 c10).2)
  (subst c0; exact agg4 (sum_u0 ha hb c6).1 (sum_u0 ha hb c6).2 (sum_s0 (.inr c10)).1 (sum_s0 (.inr c10)).2)
  (subst c0; exact agg4 (sum_u0 ha hb c6).1 (sum_u0 ha hb c6).2 (sum_s0 (.inl c9)).1 (sum_s0 (.inl c9)).2)
theorem sK_sum {sp : Spec} {key : Nat} (hF : sp.F key = sF_sum) (hP : sp.pre key = fun _ => True := by rfl) : SmOk Tryz.prog sp (sM_sum key) :=
  fun_ok (s := sM_sum key) hF hP (by kernel_rfl) tysok_XbC (smc (sK_all rfl) (smc (sK_add64 rfl) (smc (sK_plus rfl) (smc (sK_minus rfl) sm0)))) Tryz.func108 sR_sum (.inl rfl) (fun x0 gx0 x1 gx1 x2 gx2 x3 gx3 x4 gx4 x5 gx5 x6 gx6 x7 gx7 x8 hp ρ g => sX_sum ⟨x0, x1, x2, x3⟩ ⟨gx0, gx1, gx2, gx3⟩ ⟨x4, x5, x6, x7⟩ ⟨gx4, gx5, gx6, gx7⟩ x8 ρ g)
end Go.Proofs.YtcfnglbcgkappaaGreat
