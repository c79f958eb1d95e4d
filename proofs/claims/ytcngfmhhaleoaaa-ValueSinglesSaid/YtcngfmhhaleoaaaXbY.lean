/- Texts XbC, XbD, XbE in one. -/
import Derived.Test.YtcngfmhhaleoaaaXbZ
import Derived.Test.YtcngfmhhaleoaaaBdT
import Derived.Test.YtcngfmhhaleoaaaProg
import Derived.Laws.Externs
/- Contracts of sum and Do of package bounds, by the symbolic run. -/
set_option linter.unusedVariables false
set_option linter.unusedSimpArgs false
namespace Go.Proofs.Ytcngfmhhaleoaaa
open Go.RowKit Go.ChangeShapes Go.WideShapes

def okop (op l : Int) : Bool := (decide (0 ≤ op) && decide (op ≤ 12)) && zlong l
theorem u64_inK {x : Int} (h : 0 ≤ x ∧ x ≤ 18446744073709551615) : inK .u64 x = true := by
  rw [inK_iff]; simpa [IntKind.min, IntKind.max, IntKind.signed, IntKind.bits] using h
theorem i64_inK {x : Int} (h : -9223372036854775808 ≤ x ∧ x ≤ 9223372036854775807) : inK .i64 x = true := by
  rw [inK_iff]; simpa [IntKind.min, IntKind.max, IntKind.signed, IntKind.bits] using h
def tys_XbC : List (Nat × TI) := [(2, ⟨false, 1, [.int .i64 (.lit 0)], [], none, some .i64, false, false⟩),
  (22, ⟨false, 1, [.int .u64 (.lit 0)], [], none, some .u64, false, false⟩),
  (24, ⟨true, 4, [.int .u64 (.lit 0), .int .u64 (.lit 0), .int .i64 (.lit 0), .int .i64 (.lit 0)], [(0, 22), (1, 22), (2, 2), (3, 2)], none, none, false, false⟩)]
set_option maxRecDepth 100000 in
theorem tysck_XbC : (tys_XbC.all fun p => ckTI Try.prog p.1 p.2) = true := by kernel_rfl
theorem tysne_XbC : (tys_XbC.all fun p => !p.2.eqok) = true := by kernel_rfl
theorem tysok_XbC : ∀ t i, (t, i) ∈ tys_XbC → TIok Try.prog t i := by
  intro t i h
  have h1 := all_at (f := fun _ i => !i.eqok) tysne_XbC h
  exact TIok_of (all_at (f := ckTI Try.prog) tysck_XbC h) (fun he => by simp [he] at h1) (fun he => by simp [he] at h1)
theorem sX_add64 (x : Int) (hx : inK .u64 x = true) (y : Int) (hy : inK .u64 y = true) : (∀ w, (callFunc 103 #[.int .u64 x, .int .u64 y, .int .u64 0]).run Try.prog w = .ok (.value (.tuple #[.int .u64 ((x + y) % 18446744073709551616), .int .u64 ((x + y) / 18446744073709551616)])) w) ∧ valIn (.tuple #[.int .u64 ((x + y) % 18446744073709551616), .int .u64 ((x + y) / 18446744073709551616)]) = true := by
  have gx := inK_u64 hx
  have gy := inK_u64 hy
  refine ⟨fun w => ?_, ?_⟩
  · rw [run_callFunc_extern Try.func103 (by kernel_rfl) (by kernel_rfl) (by kernel_rfl) (e := add64Entry) (by kernel_rfl), run_add64 x y 0 gx.1 gy.1 (by omega) (by omega)]
    simp only [Result.andThen, Int.add_zero]
  · have h1 : inK .u64 ((x + y) % 18446744073709551616) = true := u64_inK (by omega)
    have h2 : inK .u64 ((x + y) / 18446744073709551616) = true := u64_inK (by omega)
    simp [valIn, partIn, cellIn, h1, h2]
def sM_add64 (key : Nat) : Sm := ⟨103, key, [(false, [.int .u64]), (false, [.int .u64]), (false, [.lit .u64 0])], [(false, [.int .u64]), (false, [.int .u64])], true⟩
def sI_add64 : Nat → List Int → Int
  | 0, [x0, x1] => (fun (x : Int) (y : Int) => (x + y) % 18446744073709551616) x0 x1
  | 1, [x0, x1] => (fun (x : Int) (y : Int) => (x + y) / 18446744073709551616) x0 x1
  | _, _ => 0
def sB_add64 : Nat → List Int → Bool
  | _, _ => false
theorem sK_add64 {sp : Spec} {key : Nat} (hI : sp.I key = sI_add64) (hB : sp.B key = sB_add64) : SmOk Try.prog sp (sM_add64 key) := by
  refine SmOk.of (.inr (fun xs vals h => ?_)) (.inl rfl)
  obtain ⟨_, _, _, d1, h1, rfl⟩ := shO h
  obtain ⟨x0, rfl, rfl, gx0⟩ := ckI d1
  obtain ⟨_, _, _, d2, h2, rfl⟩ := shO h1
  obtain ⟨x1, rfl, rfl, gx1⟩ := ckI d2
  obtain ⟨_, _, _, d3, h3, rfl⟩ := shO h2
  obtain ⟨rfl, rfl⟩ := ckT d3
  obtain ⟨rfl, rfl⟩ := shN h3
  refine ⟨_, sX_add64 x0 gx0 x1 gx1, fun ρ v0 he => ?_⟩
  have he' : ρ.i (v0 + 0) = sp.I key 0 [x0, x1] ∧ ρ.i (v0 + 1) = sp.I key 1 [x0, x1] ∧ True := he
  simp only [hI, hB] at he'
  obtain ⟨e0, e1, -⟩ := he'
  show some (.tuple #[.int .u64 (ρ.i (v0 + 0)), .int .u64 (ρ.i (v0 + 1))] : Value) = _
  rw [e0, e1]
  rfl
theorem sX_len (x : Int) (hx : inK .u64 x = true) : (∀ w, Calls Try.prog 70 #[.int .u64 x] w fun e w' => e = .returned (.int .i64 ((blenN x.toNat : Int))) ∧ Ext w w') ∧ valIn (.int .i64 ((blenN x.toNat : Int))) = true := by
  have g := inK_u64 hx
  have hb : blenN x.toNat ≤ 64 := blen_le (by omega)
  have h : inK .i64 (blenN x.toNat : Int) = true := i64_inK (by omega)
  exact ⟨fun w => b_len x g.1 g.2 w w (Ext.refl w), h⟩
def sM_len (key : Nat) : Sm := ⟨70, key, [(false, [.int .u64])], [(false, [.int .i64])], false⟩
def sI_len : Nat → List Int → Int
  | 0, [x0] => (fun (x : Int) => (blenN x.toNat : Int)) x0
  | _, _ => 0
def sB_len : Nat → List Int → Bool
  | _, _ => false
theorem sK_len {sp : Spec} {key : Nat} (hI : sp.I key = sI_len) (hB : sp.B key = sB_len) : SmOk Try.prog sp (sM_len key) := by
  refine SmOk.of (.inl ⟨run_enter Try.func70 (by kernel_rfl) (by kernel_rfl), fun xs vals h => ?_⟩) (.inr (.inr ⟨_, rfl⟩))
  obtain ⟨_, _, _, d1, h1, rfl⟩ := shO h
  obtain ⟨x0, rfl, rfl, gx0⟩ := ckI d1
  obtain ⟨rfl, rfl⟩ := shN h1
  refine ⟨_, sX_len x0 gx0, fun ρ v0 he => ?_⟩
  have he' : ρ.i (v0 + 0) = sp.I key 0 [x0] ∧ True := he
  simp only [hI, hB] at he'
  obtain ⟨e0, -⟩ := he'
  show some (.int .i64 (ρ.i (v0 + 0)) : Value) = _
  rw [e0]
  rfl
theorem sX_lz (x : Int) (hx : inK .u64 x = true) : (∀ w, Calls Try.prog 72 #[.int .u64 x] w fun e w' => e = .returned (.int .i64 (64 - (blenN x.toNat : Int))) ∧ Ext w w') ∧ valIn (.int .i64 (64 - (blenN x.toNat : Int))) = true := by
  have g := inK_u64 hx
  have hb : blenN x.toNat ≤ 64 := blen_le (by omega)
  have h : inK .i64 (64 - (blenN x.toNat : Int)) = true := i64_inK (by omega)
  exact ⟨fun w => b_lz x g.1 g.2 w w (Ext.refl w), h⟩
def sM_lz (key : Nat) : Sm := ⟨72, key, [(false, [.int .u64])], [(false, [.int .i64])], false⟩
def sI_lz : Nat → List Int → Int
  | 0, [x0] => (fun (x : Int) => 64 - (blenN x.toNat : Int)) x0
  | _, _ => 0
def sB_lz : Nat → List Int → Bool
  | _, _ => false
theorem sK_lz {sp : Spec} {key : Nat} (hI : sp.I key = sI_lz) (hB : sp.B key = sB_lz) : SmOk Try.prog sp (sM_lz key) := by
  refine SmOk.of (.inl ⟨run_enter Try.func72 (by kernel_rfl) (by kernel_rfl), fun xs vals h => ?_⟩) (.inr (.inr ⟨_, rfl⟩))
  obtain ⟨_, _, _, d1, h1, rfl⟩ := shO h
  obtain ⟨x0, rfl, rfl, gx0⟩ := ckI d1
  obtain ⟨rfl, rfl⟩ := shN h1
  refine ⟨_, sX_lz x0 gx0, fun ρ v0 he => ?_⟩
  have he' : ρ.i (v0 + 0) = sp.I key 0 [x0] ∧ True := he
  simp only [hI, hB] at he'
  obtain ⟨e0, -⟩ := he'
  show some (.int .i64 (ρ.i (v0 + 0)) : Value) = _
  rw [e0]
  rfl
def sT_sum : Tr :=
(.call 0 [.int .u64, .int .u64, .int .i64, .int .i64] .nil 9
 (.br (.bvar 8)
 (.br (.lt (.var 0) (.var 5))
  (.call 3 [.int .i64, .bool] (.cons (.var 2) (.cons (.var 7) .nil)) 13
   (.call 3 [.int .i64, .bool] (.cons (.var 3) (.cons (.var 6) .nil)) 15
   (.br (.bvar 14)
   (.br (.bvar 16)
    (.leaf (.agg [.int .u64 (.var 9), .int .u64 (.var 10), .int .i64 (.var 13), .int .i64 (.var 15)]))
    (.leaf (.agg [.int .u64 (.var 9), .int .u64 (.var 10), .int .i64 (.var 11), .int .i64 (.var 12)])))
   (.leaf (.agg [.int .u64 (.var 9), .int .u64 (.var 10), .int .i64 (.var 11), .int .i64 (.var 12)])))))
  (.call 3 [.int .i64, .bool] (.cons (.var 2) (.cons (.var 7) .nil)) 13
   (.call 3 [.int .i64, .bool] (.cons (.var 3) (.cons (.var 6) .nil)) 15
   (.br (.bvar 14)
   (.br (.bvar 16)
    (.leaf (.agg [.int .u64 (.bin .sub .u64 (.var 0) (.var 5)), .int .u64 (.bin .sub .u64 (.var 1) (.var 4)), .int .i64 (.var 13), .int .i64 (.var 15)]))
    (.leaf (.agg [.int .u64 (.bin .sub .u64 (.var 0) (.var 5)), .int .u64 (.bin .sub .u64 (.var 1) (.var 4)), .int .i64 (.var 11), .int .i64 (.var 12)])))
   (.leaf (.agg [.int .u64 (.bin .sub .u64 (.var 0) (.var 5)), .int .u64 (.bin .sub .u64 (.var 1) (.var 4)), .int .i64 (.var 11), .int .i64 (.var 12)]))))))
 (.call 1 [.int .u64, .int .u64] (.cons (.var 1) (.cons (.var 5) .nil)) 13
  (.br (.eq (.var 14) (.lit 0))
  (.call 2 [.int .i64, .bool] (.cons (.var 2) (.cons (.var 6) .nil)) 15
   (.call 2 [.int .i64, .bool] (.cons (.var 3) (.cons (.var 7) .nil)) 17
   (.br (.bvar 16)
   (.br (.bvar 18)
    (.leaf (.agg [.int .u64 (.bin .add .u64 (.var 0) (.var 4)), .int .u64 (.var 13), .int .i64 (.var 15), .int .i64 (.var 17)]))
    (.leaf (.agg [.int .u64 (.bin .add .u64 (.var 0) (.var 4)), .int .u64 (.var 13), .int .i64 (.var 11), .int .i64 (.var 12)])))
   (.leaf (.agg [.int .u64 (.bin .add .u64 (.var 0) (.var 4)), .int .u64 (.var 13), .int .i64 (.var 11), .int .i64 (.var 12)])))))
  (.call 2 [.int .i64, .bool] (.cons (.var 2) (.cons (.var 6) .nil)) 15
   (.call 2 [.int .i64, .bool] (.cons (.var 3) (.cons (.var 7) .nil)) 17
   (.br (.bvar 16)
   (.br (.bvar 18)
    (.leaf (.agg [.int .u64 (.var 9), .int .u64 (.var 10), .int .i64 (.var 15), .int .i64 (.var 17)]))
    (.leaf (.agg [.int .u64 (.var 9), .int .u64 (.var 10), .int .i64 (.var 11), .int .i64 (.var 12)])))
   (.leaf (.agg [.int .u64 (.var 9), .int .u64 (.var 10), .int .i64 (.var 11), .int .i64 (.var 12)])))))))))
def sP_sum : Spec := ⟨fun k => match k with | 0 => sI_all | 1 => sI_add64 | 2 => sI_plus | 3 => sI_minus | _ => fun _ _ => 0, fun k => match k with | 0 => sB_all | 1 => sB_add64 | 2 => sB_plus | 3 => sB_minus | _ => fun _ _ => false⟩
set_option maxRecDepth 100000 in
theorem sR_sum : funK ⟨tys_XbC, [sM_all 0, sM_add64 1, sM_plus 2, sM_minus 3]⟩ 200 Try.f71 [.agg [.int .u64 (.var 0), .int .u64 (.var 1), .int .i64 (.var 2), .int .i64 (.var 3)], .agg [.int .u64 (.var 4), .int .u64 (.var 5), .int .i64 (.var 6), .int .i64 (.var 7)], .one (.bool (.bvar 8))] ⟨[], [], [some .u64, some .u64, some .i64, some .i64, some .u64, some .u64, some .i64, some .i64, none]⟩ = sT_sum := by kernel_rfl
set_option maxRecDepth 100000 in
set_option maxHeartbeats 8000000 in
theorem sX_sum (a : Rg) (ha : Rg.ok a) (b : Rg) (hb : Rg.ok b) (t : Bool) : (∀ w, Calls Try.prog 71 #[.agg #[.int .u64 a.ul, .int .u64 a.uh, .int .i64 a.sl, .int .i64 a.sh], .agg #[.int .u64 b.ul, .int .u64 b.uh, .int .i64 b.sl, .int .i64 b.sh], .bool t] w fun e w' => e = .returned (.agg #[.int .u64 (xsum t a b).ul, .int .u64 (xsum t a b).uh, .int .i64 (xsum t a b).sl, .int .i64 (xsum t a b).sh]) ∧ Ext w w') ∧ valIn (.agg #[.int .u64 (xsum t a b).ul, .int .u64 (xsum t a b).uh, .int .i64 (xsum t a b).sl, .int .i64 (xsum t a b).sh]) = true := by
  refine fun_calls (cx := ⟨tys_XbC, [sM_all 0, sM_add64 1, sM_plus 2, sM_minus 3]⟩) (sp := sP_sum) (t := sT_sum) (by kernel_rfl) tysok_XbC (List.forall_mem_cons.2 ⟨sK_all rfl rfl, List.forall_mem_cons.2 ⟨sK_add64 rfl rfl, List.forall_mem_cons.2 ⟨sK_plus rfl rfl, List.forall_mem_cons.2 ⟨sK_minus rfl rfl, fun _ h => (by cases h)⟩⟩⟩⟩) (keys_of (by kernel_rfl)) Try.func71 ⟨fun n => ([a.ul, a.uh, a.sl, a.sh, b.ul, b.uh, b.sl, b.sh, 0] : List Int).getD n 0, fun n => ([false, false, false, false, false, false, false, false, t] : List Bool).getD n false⟩ sR_sum (by kernel_rfl) ?_ rfl (by intro p hp; cases hp) ?_ ?_
  · intro n k hk
    have hlt : n < 9 := by
      rcases Nat.lt_or_ge n 9 with h | h
      · exact h
      · rw [List.getElem?_eq_none h] at hk; cases hk
    rcases (show n = 0 ∨ n = 1 ∨ n = 2 ∨ n = 3 ∨ n = 4 ∨ n = 5 ∨ n = 6 ∨ n = 7 ∨ n = 8 by omega) with rfl | rfl | rfl | rfl | rfl | rfl | rfl | rfl | rfl
    · cases hk; exact ha.1
    · cases hk; exact ha.2.1
    · cases hk; exact ha.2.2.1
    · cases hk; exact ha.2.2.2
    · cases hk; exact hb.1
    · cases hk; exact hb.2.1
    · cases hk; exact hb.2.2.1
    · cases hk; exact hb.2.2.2
    · cases hk
  · intro ρ hag
    have g0 : ρ.i 0 = a.ul := (hag 0 (by decide)).1.symm
    have g1 : ρ.i 1 = a.uh := (hag 1 (by decide)).1.symm
    have g2 : ρ.i 2 = a.sl := (hag 2 (by decide)).1.symm
    have g3 : ρ.i 3 = a.sh := (hag 3 (by decide)).1.symm
    have g4 : ρ.i 4 = b.ul := (hag 4 (by decide)).1.symm
    have g5 : ρ.i 5 = b.uh := (hag 5 (by decide)).1.symm
    have g6 : ρ.i 6 = b.sl := (hag 6 (by decide)).1.symm
    have g7 : ρ.i 7 = b.sh := (hag 7 (by decide)).1.symm
    have g8 : ρ.b 8 = t := (hag 8 (by decide)).2.symm
    show some ([.agg #[.int .u64 (ρ.i 0), .int .u64 (ρ.i 1), .int .i64 (ρ.i 2), .int .i64 (ρ.i 3)], .agg #[.int .u64 (ρ.i 4), .int .u64 (ρ.i 5), .int .i64 (ρ.i 6), .int .i64 (ρ.i 7)], .bool (ρ.b 8)] : List Value) = _
    rw [g0, g1, g2, g3, g4, g5, g6, g7, g8]
  · intro ρ hag
    have g0 : ρ.i 0 = a.ul := (hag 0 (by decide)).1.symm
    have g1 : ρ.i 1 = a.uh := (hag 1 (by decide)).1.symm
    have g2 : ρ.i 2 = a.sl := (hag 2 (by decide)).1.symm
    have g3 : ρ.i 3 = a.sh := (hag 3 (by decide)).1.symm
    have g4 : ρ.i 4 = b.ul := (hag 4 (by decide)).1.symm
    have g5 : ρ.i 5 = b.uh := (hag 5 (by decide)).1.symm
    have g6 : ρ.i 6 = b.sl := (hag 6 (by decide)).1.symm
    have g7 : ρ.i 7 = b.sh := (hag 7 (by decide)).1.symm
    have g8 : ρ.b 8 = t := (hag 8 (by decide)).2.symm
    simp only [sT_sum, Tr.asks, eqs, E.I, E.B, E.L, V.den, C.den, denL, den0, den0L, Option.map_some, Nat.add_zero, Nat.reduceAdd, and_true, Rg.eta, g0, g1, g2, g3, g4, g5, g6, g7, g8]
    simp only [sP_sum, b01, Pi.eta, Pu.eta, Rg.eta, sI_all, sB_all, sI_add64, sB_add64, sI_plus, sB_plus, sI_minus, sB_minus]
    rintro ⟨e9, e10, e11, e12⟩
    (try simp only [e9, e10, e11, e12, Pi.eta, Pu.eta, Rg.eta])
    (try clear e9 e10 e11 e12)
    refine ⟨fun c0 => ?_, fun c0 => ?_⟩
    · skip
      refine ⟨fun c1 => ?_, fun c1 => ?_⟩
      · skip
        rintro ⟨e13, e14⟩
        (try simp only [e13, e14, Pi.eta, Pu.eta, Rg.eta])
        (try clear e13 e14)
        rintro ⟨e15, e16⟩
        (try simp only [e15, e16, Pi.eta, Pu.eta, Rg.eta])
        (try clear e15 e16)
        refine ⟨fun c2 => ?_, fun c2 => ?_⟩
        · skip
          refine ⟨fun c3 => ?_, fun c3 => ?_⟩
          · skip
            all_goals
              refine congrArg some ?_
              (subst c0; exact agg4 (dif_u0 c1).1 (dif_u0 c1).2 (dif_s1 c2 c3).1 (dif_s1 c2 c3).2)
          · skip
            all_goals
              refine congrArg some ?_
              (subst c0; exact agg4 (dif_u0 c1).1 (dif_u0 c1).2 (dif_s0 (.inr c3)).1 (dif_s0 (.inr c3)).2)
        · skip
          all_goals
            refine congrArg some ?_
            (subst c0; exact agg4 (dif_u0 c1).1 (dif_u0 c1).2 (dif_s0 (.inl c2)).1 (dif_s0 (.inl c2)).2)
      · skip
        rintro ⟨e13, e14⟩
        (try simp only [e13, e14, Pi.eta, Pu.eta, Rg.eta])
        (try clear e13 e14)
        rintro ⟨e15, e16⟩
        (try simp only [e15, e16, Pi.eta, Pu.eta, Rg.eta])
        (try clear e15 e16)
        refine ⟨fun c4 => ?_, fun c4 => ?_⟩
        · skip
          refine ⟨fun c5 => ?_, fun c5 => ?_⟩
          · skip
            all_goals
              refine congrArg some ?_
              (subst c0; exact agg4 (dif_u1 c1).1 (dif_u1 c1).2 (dif_s1 c4 c5).1 (dif_s1 c4 c5).2)
          · skip
            all_goals
              refine congrArg some ?_
              (subst c0; exact agg4 (dif_u1 c1).1 (dif_u1 c1).2 (dif_s0 (.inr c5)).1 (dif_s0 (.inr c5)).2)
        · skip
          all_goals
            refine congrArg some ?_
            (subst c0; exact agg4 (dif_u1 c1).1 (dif_u1 c1).2 (dif_s0 (.inl c4)).1 (dif_s0 (.inl c4)).2)
    · skip
      rintro ⟨e13, e14⟩
      (try simp only [e13, e14, Pi.eta, Pu.eta, Rg.eta])
      (try clear e13 e14)
      refine ⟨fun c6 => ?_, fun c6 => ?_⟩
      · skip
        rintro ⟨e15, e16⟩
        (try simp only [e15, e16, Pi.eta, Pu.eta, Rg.eta])
        (try clear e15 e16)
        rintro ⟨e17, e18⟩
        (try simp only [e17, e18, Pi.eta, Pu.eta, Rg.eta])
        (try clear e17 e18)
        refine ⟨fun c7 => ?_, fun c7 => ?_⟩
        · skip
          refine ⟨fun c8 => ?_, fun c8 => ?_⟩
          · skip
            all_goals
              refine congrArg some ?_
              (subst c0; exact agg4 (sum_u1 ha hb c6).1 (sum_u1 ha hb c6).2 (sum_s1 c7 c8).1 (sum_s1 c7 c8).2)
          · skip
            all_goals
              refine congrArg some ?_
              (subst c0; exact agg4 (sum_u1 ha hb c6).1 (sum_u1 ha hb c6).2 (sum_s0 (.inr c8)).1 (sum_s0 (.inr c8)).2)
        · skip
          all_goals
            refine congrArg some ?_
            (subst c0; exact agg4 (sum_u1 ha hb c6).1 (sum_u1 ha hb c6).2 (sum_s0 (.inl c7)).1 (sum_s0 (.inl c7)).2)
      · skip
        rintro ⟨e15, e16⟩
        (try simp only [e15, e16, Pi.eta, Pu.eta, Rg.eta])
        (try clear e15 e16)
        rintro ⟨e17, e18⟩
        (try simp only [e17, e18, Pi.eta, Pu.eta, Rg.eta])
        (try clear e17 e18)
        refine ⟨fun c9 => ?_, fun c9 => ?_⟩
        · skip
          refine ⟨fun c10 => ?_, fun c10 => ?_⟩
          · skip
            all_goals
              refine congrArg some ?_
              (subst c0; exact agg4 (sum_u0 ha hb c6).1 (sum_u0 ha hb c6).2 (sum_s1 c9 c10).1 (sum_s1 c9 c10).2)
          · skip
            all_goals
              refine congrArg some ?_
              (subst c0; exact agg4 (sum_u0 ha hb c6).1 (sum_u0 ha hb c6).2 (sum_s0 (.inr c10)).1 (sum_s0 (.inr c10)).2)
        · skip
          all_goals
            refine congrArg some ?_
            (subst c0; exact agg4 (sum_u0 ha hb c6).1 (sum_u0 ha hb c6).2 (sum_s0 (.inl c9)).1 (sum_s0 (.inl c9)).2)
def sM_sum (key : Nat) : Sm := ⟨71, key, [(true, [.int .u64, .int .u64, .int .i64, .int .i64]), (true, [.int .u64, .int .u64, .int .i64, .int .i64]), (false, [.bool])], [(true, [.int .u64, .int .u64, .int .i64, .int .i64])], false⟩
def sI_sum : Nat → List Int → Int
  | 0, [x0, x1, x2, x3, x4, x5, x6, x7, x8] => (fun (a : Rg) (b : Rg) (t : Bool) => (xsum t a b).ul) ⟨x0, x1, x2, x3⟩ ⟨x4, x5, x6, x7⟩ (x8 == 1)
  | 1, [x0, x1, x2, x3, x4, x5, x6, x7, x8] => (fun (a : Rg) (b : Rg) (t : Bool) => (xsum t a b).uh) ⟨x0, x1, x2, x3⟩ ⟨x4, x5, x6, x7⟩ (x8 == 1)
  | 2, [x0, x1, x2, x3, x4, x5, x6, x7, x8] => (fun (a : Rg) (b : Rg) (t : Bool) => (xsum t a b).sl) ⟨x0, x1, x2, x3⟩ ⟨x4, x5, x6, x7⟩ (x8 == 1)
  | 3, [x0, x1, x2, x3, x4, x5, x6, x7, x8] => (fun (a : Rg) (b : Rg) (t : Bool) => (xsum t a b).sh) ⟨x0, x1, x2, x3⟩ ⟨x4, x5, x6, x7⟩ (x8 == 1)
  | _, _ => 0
def sB_sum : Nat → List Int → Bool
  | _, _ => false
theorem sK_sum {sp : Spec} {key : Nat} (hI : sp.I key = sI_sum) (hB : sp.B key = sB_sum) : SmOk Try.prog sp (sM_sum key) := by
  refine SmOk.of (.inl ⟨run_enter Try.func71 (by kernel_rfl) (by kernel_rfl), fun xs vals h => ?_⟩) (.inr (.inl ⟨_, rfl⟩))
  obtain ⟨_, _, _, p1, h1, rfl⟩ := shA h
  obtain ⟨_, _, _, d1_0, p1_0, rfl⟩ := cksC p1
  obtain ⟨x0, rfl, rfl, gx0⟩ := ckI d1_0
  obtain ⟨_, _, _, d1_1, p1_1, rfl⟩ := cksC p1_0
  obtain ⟨x1, rfl, rfl, gx1⟩ := ckI d1_1
  obtain ⟨_, _, _, d1_2, p1_2, rfl⟩ := cksC p1_1
  obtain ⟨x2, rfl, rfl, gx2⟩ := ckI d1_2
  obtain ⟨_, _, _, d1_3, p1_3, rfl⟩ := cksC p1_2
  obtain ⟨x3, rfl, rfl, gx3⟩ := ckI d1_3
  obtain ⟨rfl, rfl⟩ := cksN p1_3
  obtain ⟨_, _, _, p2, h2, rfl⟩ := shA h1
  obtain ⟨_, _, _, d2_0, p2_0, rfl⟩ := cksC p2
  obtain ⟨x4, rfl, rfl, gx4⟩ := ckI d2_0
  obtain ⟨_, _, _, d2_1, p2_1, rfl⟩ := cksC p2_0
  obtain ⟨x5, rfl, rfl, gx5⟩ := ckI d2_1
  obtain ⟨_, _, _, d2_2, p2_2, rfl⟩ := cksC p2_1
  obtain ⟨x6, rfl, rfl, gx6⟩ := ckI d2_2
  obtain ⟨_, _, _, d2_3, p2_3, rfl⟩ := cksC p2_2
  obtain ⟨x7, rfl, rfl, gx7⟩ := ckI d2_3
  obtain ⟨rfl, rfl⟩ := cksN p2_3
  obtain ⟨_, _, _, d3, h3, rfl⟩ := shO h2
  obtain ⟨x8, rfl, rfl⟩ := ckB d3
  obtain ⟨rfl, rfl⟩ := shN h3
  refine ⟨_, sX_sum ⟨x0, x1, x2, x3⟩ ⟨gx0, gx1, gx2, gx3⟩ ⟨x4, x5, x6, x7⟩ ⟨gx4, gx5, gx6, gx7⟩ (x8 == 1), fun ρ v0 he => ?_⟩
  have he' : ρ.i (v0 + 0) = sp.I key 0 [x0, x1, x2, x3, x4, x5, x6, x7, x8] ∧ ρ.i (v0 + 1) = sp.I key 1 [x0, x1, x2, x3, x4, x5, x6, x7, x8] ∧ ρ.i (v0 + 2) = sp.I key 2 [x0, x1, x2, x3, x4, x5, x6, x7, x8] ∧ ρ.i (v0 + 3) = sp.I key 3 [x0, x1, x2, x3, x4, x5, x6, x7, x8] ∧ True := he
  simp only [hI, hB] at he'
  obtain ⟨e0, e1, e2, e3, -⟩ := he'
  show some (.agg #[.int .u64 (ρ.i (v0 + 0)), .int .u64 (ρ.i (v0 + 1)), .int .i64 (ρ.i (v0 + 2)), .int .i64 (ρ.i (v0 + 3))] : Value) = _
  rw [e0, e1, e2, e3]
  rfl
end Go.Proofs.Ytcngfmhhaleoaaa

/- Contract of Do of package bounds, by the symbolic run. -/
set_option linter.unusedVariables false
set_option linter.unusedSimpArgs false
namespace Go.Proofs.Ytcngfmhhaleoaaa
open Go.RowKit Go.ChangeShapes Go.WideShapes

def tys_XbD : List (Nat × TI) := [(2, ⟨false, 1, [.int .i64 (.lit 0)], [], none, some .i64, false, false⟩),
  (3, ⟨false, 1, [.int .i64 (.lit 0)], [], none, some .i64, false, false⟩),
  (22, ⟨false, 1, [.int .u64 (.lit 0)], [], none, some .u64, false, false⟩),
  (24, ⟨true, 4, [.int .u64 (.lit 0), .int .u64 (.lit 0), .int .i64 (.lit 0), .int .i64 (.lit 0)], [(0, 22), (1, 22), (2, 2), (3, 2)], none, none, false, false⟩),
  (33, ⟨false, 1, [.int .i8 (.lit 0)], [], none, some .i8, false, false⟩),
  (75, ⟨false, 1, [.int .u64 (.lit 0)], [], none, some .u64, false, false⟩)]
set_option maxRecDepth 100000 in
theorem tysck_XbD : (tys_XbD.all fun p => ckTI Try.prog p.1 p.2) = true := by kernel_rfl
theorem tysne_XbD : (tys_XbD.all fun p => !p.2.eqok) = true := by kernel_rfl
theorem tysok_XbD : ∀ t i, (t, i) ∈ tys_XbD → TIok Try.prog t i := by
  intro t i h
  have h1 := all_at (f := fun _ i => !i.eqok) tysne_XbD h
  exact TIok_of (all_at (f := ckTI Try.prog) tysck_XbD h) (fun he => by simp [he] at h1) (fun he => by simp [he] at h1)
def sT_do : Tr :=
(.call 0 [.bool] (.cons (.var 1) (.cons (.var 2) (.cons (.var 3) (.cons (.var 4) .nil)))) 9
 (.br (.bvar 9)
 (.call 0 [.bool] (.cons (.var 5) (.cons (.var 6) (.cons (.var 7) (.cons (.var 8) .nil)))) 10
  (.br (.bvar 10)
  (.call 1 [.int .u64, .int .u64, .int .i64, .int .i64] .nil 11
   (.call 2 [.int .u64, .bool] (.cons (.var 5) (.cons (.var 6) (.cons (.var 7) (.cons (.var 8) .nil)))) 15
   (.call 3 [.int .i64] (.cons (.mx (.var 2) (.var 6)) .nil) 17
   (.br (.lt (.var 17) (.lit 0))
   .panic
   (.br (.eq (.var 0) (.lit 11))
    (.call 6 [.int .u64, .int .u64, .int .i64, .int .i64] (.cons (.var 5) (.cons (.var 6) (.cons (.var 7) (.cons (.var 8) .nil)))) 18
     (.leaf (.agg [.int .u64 (.var 18), .int .u64 (.var 19), .int .i64 (.var 20), .int .i64 (.var 21)])))
    (.br (.eq (.var 0) (.lit 0))
     (.call 5 [.int .u64, .int .u64, .int .i64, .int .i64] (.cons (.var 1) (.cons (.var 2) (.cons (.var 3) (.cons (.var 4) (.cons (.var 5) (.cons (.var 6) (.cons (.var 7) (.cons (.var 8) (.consb (.eq (.var 0) (.lit 1)) .nil))))))))) 18
      (.call 6 [.int .u64, .int .u64, .int .i64, .int .i64] (.cons (.var 18) (.cons (.var 19) (.cons (.var 20) (.cons (.var 21) .nil)))) 22
      (.leaf (.agg [.int .u64 (.var 22), .int .u64 (.var 23), .int .i64 (.var 24), .int .i64 (.var 25)]))))
     (.br (.eq (.var 0) (.lit 1))
      (.call 5 [.int .u64, .int .u64, .int .i64, .int .i64] (.cons (.var 1) (.cons (.var 2) (.cons (.var 3) (.cons (.var 4) (.cons (.var 5) (.cons (.var 6) (.cons (.var 7) (.cons (.var 8) (.consb (.eq (.var 0) (.lit 1)) .nil))))))))) 18
       (.call 6 [.int .u64, .int .u64, .int .i64, .int .i64] (.cons (.var 18) (.cons (.var 19) (.cons (.var 20) (.cons (.var 21) .nil)))) 22
       (.leaf (.agg [.int .u64 (.var 22), .int .u64 (.var 23), .int .i64 (.var 24), .int .i64 (.var 25)]))))
      (.br (.eq (.var 0) (.lit 5))
       (.call 6 [.int .u64, .int .u64, .int .i64, .int .i64] (.cons (.var 11) (.cons (.mn (.var 2) (.var 6)) (.cons (.var 13) (.cons (.var 14) .nil)))) 18
        (.leaf (.agg [.int .u64 (.var 18), .int .u64 (.var 19), .int .i64 (.var 20), .int .i64 (.var 21)])))
       (.br (.eq (.var 0) (.lit 4))
        (.call 6 [.int .u64, .int .u64, .int .i64, .int .i64] (.cons (.mx (.var 1) (.var 5)) (.cons (.bin .sub .u64 (.bin .shl .u64 (.lit 1) (.var 17)) (.lit 1)) (.cons (.var 13) (.cons (.var 14) .nil)))) 18
         (.leaf (.agg [.int .u64 (.var 18), .int .u64 (.var 19), .int .i64 (.var 20), .int .i64 (.var 21)])))
        (.br (.eq (.var 0) (.lit 10))
         (.call 6 [.int .u64, .int .u64, .int .i64, .int .i64] (.cons (.var 11) (.cons (.bin .sub .u64 (.bin .shl .u64 (.lit 1) (.var 17)) (.lit 1)) (.cons (.var 13) (.cons (.var 14) .nil)))) 18
          (.leaf (.agg [.int .u64 (.var 18), .int .u64 (.var 19), .int .i64 (.var 20), .int .i64 (.var 21)])))
         (.br (.eq (.var 0) (.lit 3))
          (.br (.lt (.lit 0) (.var 5))
           (.br (.eq (.var 6) (.lit 0))
            .panic
            (.br (.eq (.var 5) (.lit 0))
             .panic
             (.call 6 [.int .u64, .int .u64, .int .i64, .int .i64] (.cons (.bin .quo .u64 (.var 1) (.var 6)) (.cons (.bin .quo .u64 (.var 2) (.var 5)) (.cons (.var 13) (.cons (.var 14) .nil)))) 18
              (.leaf (.agg [.int .u64 (.var 18), .int .u64 (.var 19), .int .i64 (.var 20), .int .i64 (.var 21)])))))
           (.call 6 [.int .u64, .int .u64, .int .i64, .int .i64] (.cons (.var 11) (.cons (.var 2) (.cons (.var 13) (.cons (.var 14) .nil)))) 18
            (.leaf (.agg [.int .u64 (.var 18), .int .u64 (.var 19), .int .i64 (.var 20), .int .i64 (.var 21)]))))
          (.br (.eq (.var 0) (.lit 9))
           (.br (.lt (.lit 0) (.var 5))
            (.call 6 [.int .u64, .int .u64, .int .i64, .int .i64] (.cons (.var 11) (.cons (.mn (.var 2) (.bin .sub .u64 (.var 6) (.lit 1))) (.cons (.var 13) (.cons (.var 14) .nil)))) 18
             (.leaf (.agg [.int .u64 (.var 18), .int .u64 (.var 19), .int .i64 (.var 20), .int .i64 (.var 21)])))
            (.call 6 [.int .u64, .int .u64, .int .i64, .int .i64] (.cons (.var 11) (.cons (.var 2) (.cons (.var 13) (.cons (.var 14) .nil)))) 18
             (.leaf (.agg [.int .u64 (.var 18), .int .u64 (.var 19), .int .i64 (.var 20), .int .i64 (.var 21)]))))
           (.br (.eq (.var 0) (.lit 7))
            (.br (.bvar 16)
             (.call 6 [.int .u64, .int .u64, .int .i64, .int .i64] (.cons (.bin .shr .u64 (.var 1) (.bin .and .u64 (.var 15) (.lit 63))) (.cons (.bin .shr .u64 (.var 2) (.bin .and .u64 (.var 15) (.lit 63))) (.cons (.var 13) (.cons (.var 14) .nil)))) 18
              (.leaf (.agg [.int .u64 (.var 18), .int .u64 (.var 19), .int .i64 (.var 20), .int .i64 (.var 21)])))
             (.call 6 [.int .u64, .int .u64, .int .i64, .int .i64] (.cons (.var 11) (.cons (.var 12) (.cons (.var 13) (.cons (.var 14) .nil)))) 18
              (.leaf (.agg [.int .u64 (.var 18), .int .u64 (.var 19), .int .i64 (.var 20), .int .i64 (.var 21)]))))
            (.br (.eq (.var 0) (.lit 6))
             (.br (.bvar 16)
              (.call 4 [.int .i64] (.cons (.var 2) .nil) 18
               (.br (.lt (.var 18) (.conv .i64 (.bin .and .u64 (.var 15) (.lit 63))))
               (.call 6 [.int .u64, .int .u64, .int .i64, .int .i64] (.cons (.var 11) (.cons (.var 12) (.cons (.var 13) (.cons (.var 14) .nil)))) 19
                (.leaf (.agg [.int .u64 (.var 19), .int .u64 (.var 20), .int .i64 (.var 21), .int .i64 (.var 22)])))
               (.call 6 [.int .u64, .int .u64, .int .i64, .int .i64] (.cons (.bin .shl .u64 (.var 1) (.bin .and .u64 (.var 15) (.lit 63))) (.cons (.bin .shl .u64 (.var 2) (.bin .and .u64 (.var 15) (.lit 63))) (.cons (.var 13) (.cons (.var 14) .nil)))) 19
                (.leaf (.agg [.int .u64 (.var 19), .int .u64 (.var 20), .int .i64 (.var 21), .int .i64 (.var 22)])))))
              (.call 6 [.int .u64, .int .u64, .int .i64, .int .i64] (.cons (.var 11) (.cons (.var 12) (.cons (.var 13) (.cons (.var 14) .nil)))) 18
               (.leaf (.agg [.int .u64 (.var 18), .int .u64 (.var 19), .int .i64 (.var 20), .int .i64 (.var 21)]))))
             (.call 6 [.int .u64, .int .u64, .int .i64, .int .i64] (.cons (.var 11) (.cons (.var 12) (.cons (.var 13) (.cons (.var 14) .nil)))) 18
              (.leaf (.agg [.int .u64 (.var 18), .int .u64 (.var 19), .int .i64 (.var 20), .int .i64 (.var 21)])))))))))))))))))
  (.call 1 [.int .u64, .int .u64, .int .i64, .int .i64] .nil 11
   (.leaf (.agg [.int .u64 (.var 11), .int .u64 (.var 12), .int .i64 (.var 13), .int .i64 (.var 14)])))))
 (.call 1 [.int .u64, .int .u64, .int .i64, .int .i64] .nil 10
  (.leaf (.agg [.int .u64 (.var 10), .int .u64 (.var 11), .int .i64 (.var 12), .int .i64 (.var 13)])))))
def sP_do : Spec := ⟨fun k => match k with | 0 => sI_may | 1 => sI_all | 2 => sI_single | 3 => sI_len | 4 => sI_lz | 5 => sI_sum | 6 => sI_nard | _ => fun _ _ => 0, fun k => match k with | 0 => sB_may | 1 => sB_all | 2 => sB_single | 3 => sB_len | 4 => sB_lz | 5 => sB_sum | 6 => sB_nard | _ => fun _ _ => false⟩
set_option maxRecDepth 100000 in
theorem sR_do : funK ⟨tys_XbD, [sM_may 0, sM_all 1, sM_single 2, sM_len 3, sM_lz 4, sM_sum 5, sM_nard 6]⟩ 200 Try.f32 [.one (.int .i8 (.var 0)), .agg [.int .u64 (.var 1), .int .u64 (.var 2), .int .i64 (.var 3), .int .i64 (.var 4)], .agg [.int .u64 (.var 5), .int .u64 (.var 6), .int .i64 (.var 7), .int .i64 (.var 8)]] ⟨[], [], [some .i8, some .u64, some .u64, some .i64, some .i64, some .u64, some .u64, some .i64, some .i64]⟩ = sT_do := by kernel_rfl
set_option maxRecDepth 100000 in
set_option maxHeartbeats 8000000 in
theorem sX_do (op : Int) (hop : inK .i8 op = true) (a : Rg) (ha : Rg.ok a) (b : Rg) (hb : Rg.ok b) : (∀ w, Calls Try.prog 32 #[.int .i8 op, .agg #[.int .u64 a.ul, .int .u64 a.uh, .int .i64 a.sl, .int .i64 a.sh], .agg #[.int .u64 b.ul, .int .u64 b.uh, .int .i64 b.sl, .int .i64 b.sh]] w fun e w' => e = .returned (.agg #[.int .u64 (bdo op a b).ul, .int .u64 (bdo op a b).uh, .int .i64 (bdo op a b).sl, .int .i64 (bdo op a b).sh]) ∧ Ext w w') ∧ valIn (.agg #[.int .u64 (bdo op a b).ul, .int .u64 (bdo op a b).uh, .int .i64 (bdo op a b).sl, .int .i64 (bdo op a b).sh]) = true := by
  refine fun_calls (cx := ⟨tys_XbD, [sM_may 0, sM_all 1, sM_single 2, sM_len 3, sM_lz 4, sM_sum 5, sM_nard 6]⟩) (sp := sP_do) (t := sT_do) (by kernel_rfl) tysok_XbD (List.forall_mem_cons.2 ⟨sK_may rfl rfl, List.forall_mem_cons.2 ⟨sK_all rfl rfl, List.forall_mem_cons.2 ⟨sK_single rfl rfl, List.forall_mem_cons.2 ⟨sK_len rfl rfl, List.forall_mem_cons.2 ⟨sK_lz rfl rfl, List.forall_mem_cons.2 ⟨sK_sum rfl rfl, List.forall_mem_cons.2 ⟨sK_nard rfl rfl, fun _ h => (by cases h)⟩⟩⟩⟩⟩⟩⟩) (keys_of (by kernel_rfl)) Try.func32 ⟨fun n => ([op, a.ul, a.uh, a.sl, a.sh, b.ul, b.uh, b.sl, b.sh] : List Int).getD n 0, fun n => ([false, false, false, false, false, false, false, false, false] : List Bool).getD n false⟩ sR_do (by kernel_rfl) ?_ rfl (by intro p hp; cases hp) ?_ ?_
  · intro n k hk
    have hlt : n < 9 := by
      rcases Nat.lt_or_ge n 9 with h | h
      · exact h
      · rw [List.getElem?_eq_none h] at hk; cases hk
    rcases (show n = 0 ∨ n = 1 ∨ n = 2 ∨ n = 3 ∨ n = 4 ∨ n = 5 ∨ n = 6 ∨ n = 7 ∨ n = 8 by omega) with rfl | rfl | rfl | rfl | rfl | rfl | rfl | rfl | rfl
    · cases hk; exact hop
    · cases hk; exact ha.1
    · cases hk; exact ha.2.1
    · cases hk; exact ha.2.2.1
    · cases hk; exact ha.2.2.2
    · cases hk; exact hb.1
    · cases hk; exact hb.2.1
    · cases hk; exact hb.2.2.1
    · cases hk; exact hb.2.2.2
  · intro ρ hag
    have g0 : ρ.i 0 = op := (hag 0 (by decide)).1.symm
    have g1 : ρ.i 1 = a.ul := (hag 1 (by decide)).1.symm
    have g2 : ρ.i 2 = a.uh := (hag 2 (by decide)).1.symm
    have g3 : ρ.i 3 = a.sl := (hag 3 (by decide)).1.symm
    have g4 : ρ.i 4 = a.sh := (hag 4 (by decide)).1.symm
    have g5 : ρ.i 5 = b.ul := (hag 5 (by decide)).1.symm
    have g6 : ρ.i 6 = b.uh := (hag 6 (by decide)).1.symm
    have g7 : ρ.i 7 = b.sl := (hag 7 (by decide)).1.symm
    have g8 : ρ.i 8 = b.sh := (hag 8 (by decide)).1.symm
    show some ([.int .i8 (ρ.i 0), .agg #[.int .u64 (ρ.i 1), .int .u64 (ρ.i 2), .int .i64 (ρ.i 3), .int .i64 (ρ.i 4)], .agg #[.int .u64 (ρ.i 5), .int .u64 (ρ.i 6), .int .i64 (ρ.i 7), .int .i64 (ρ.i 8)]] : List Value) = _
    rw [g0, g1, g2, g3, g4, g5, g6, g7, g8]
  · intro ρ hag
    have g0 : ρ.i 0 = op := (hag 0 (by decide)).1.symm
    have g1 : ρ.i 1 = a.ul := (hag 1 (by decide)).1.symm
    have g2 : ρ.i 2 = a.uh := (hag 2 (by decide)).1.symm
    have g3 : ρ.i 3 = a.sl := (hag 3 (by decide)).1.symm
    have g4 : ρ.i 4 = a.sh := (hag 4 (by decide)).1.symm
    have g5 : ρ.i 5 = b.ul := (hag 5 (by decide)).1.symm
    have g6 : ρ.i 6 = b.uh := (hag 6 (by decide)).1.symm
    have g7 : ρ.i 7 = b.sl := (hag 7 (by decide)).1.symm
    have g8 : ρ.i 8 = b.sh := (hag 8 (by decide)).1.symm
    simp only [sT_do, Tr.asks, eqs, E.I, E.B, E.L, V.den, C.den, denL, den0, den0L, Option.map_some, Nat.add_zero, Nat.reduceAdd, and_true, Rg.eta, g0, g1, g2, g3, g4, g5, g6, g7, g8]
    simp only [sP_do, b01, Pi.eta, Pu.eta, Rg.eta, sI_may, sB_may, sI_all, sB_all, sI_single, sB_single, sI_len, sB_len, sI_lz, sB_lz, sI_sum, sB_sum, sI_nard, sB_nard]
    intro e9
    (try simp only [e9, Pi.eta, Pu.eta, Rg.eta])
    (try clear e9)
    refine ⟨fun c0 => ?_, fun c0 => ?_⟩
    · skip
      intro e10
      (try simp only [e10, Pi.eta, Pu.eta, Rg.eta])
      (try clear e10)
      refine ⟨fun c1 => ?_, fun c1 => ?_⟩
      · skip
        rintro ⟨e11, e12, e13, e14⟩
        (try simp only [e11, e12, e13, e14, Pi.eta, Pu.eta, Rg.eta])
        (try clear e11 e12 e13 e14)
        rintro ⟨e15, e16⟩
        (try simp only [e15, e16, Pi.eta, Pu.eta, Rg.eta])
        (try clear e15 e16)
        intro e17
        (try simp only [e17, Pi.eta, Pu.eta, Rg.eta])
        (try clear e17)
        refine ⟨fun c2 => ?_, fun c2 => ?_⟩
        · skip
          show False
          exact absurd (of_decide_eq_true c2) (by omega)
        · skip
          refine ⟨fun c3 => ?_, fun c3 => ?_⟩
          · skip
            rintro ⟨e18, e19, e20, e21⟩
            (try simp only [e18, e19, e20, e21, Pi.eta, Pu.eta, Rg.eta])
            (try clear e18 e19 e20 e21)
            all_goals
              refine congrArg some ?_
              exact agg_Rg (dq_11 ha hb c0 c1 c3)
          · skip
            refine ⟨fun c4 => ?_, fun c4 => ?_⟩
            · skip
              rintro ⟨e18, e19, e20, e21⟩
              (try simp only [e18, e19, e20, e21, Pi.eta, Pu.eta, Rg.eta])
              (try clear e18 e19 e20 e21)
              rintro ⟨e22, e23, e24, e25⟩
              (try simp only [e22, e23, e24, e25, Pi.eta, Pu.eta, Rg.eta])
              (try clear e22 e23 e24 e25)
              all_goals
                refine congrArg some ?_
                exact agg_Rg (dq_0 ha hb c0 c1 c4)
            · skip
              refine ⟨fun c5 => ?_, fun c5 => ?_⟩
              · skip
                rintro ⟨e18, e19, e20, e21⟩
                (try simp only [e18, e19, e20, e21, Pi.eta, Pu.eta, Rg.eta])
                (try clear e18 e19 e20 e21)
                rintro ⟨e22, e23, e24, e25⟩
                (try simp only [e22, e23, e24, e25, Pi.eta, Pu.eta, Rg.eta])
                (try clear e22 e23 e24 e25)
                all_goals
                  refine congrArg some ?_
                  exact agg_Rg (dq_1 ha hb c0 c1 c5)
              · skip
                refine ⟨fun c6 => ?_, fun c6 => ?_⟩
                · skip
                  rintro ⟨e18, e19, e20, e21⟩
                  (try simp only [e18, e19, e20, e21, Pi.eta, Pu.eta, Rg.eta])
                  (try clear e18 e19 e20 e21)
                  all_goals
                    refine congrArg some ?_
                    exact agg_Rg (dq_5 ha hb c0 c1 c6)
                · skip
                  refine ⟨fun c7 => ?_, fun c7 => ?_⟩
                  · skip
                    rintro ⟨e18, e19, e20, e21⟩
                    (try simp only [e18, e19, e20, e21, Pi.eta, Pu.eta, Rg.eta])
                    (try clear e18 e19 e20 e21)
                    all_goals
                      refine congrArg some ?_
                      exact agg_Rg (dq_4 ha hb c0 c1 c7)
                  · skip
                    refine ⟨fun c8 => ?_, fun c8 => ?_⟩
                    · skip
                      rintro ⟨e18, e19, e20, e21⟩
                      (try simp only [e18, e19, e20, e21, Pi.eta, Pu.eta, Rg.eta])
                      (try clear e18 e19 e20 e21)
                      all_goals
                        refine congrArg some ?_
                        exact agg_Rg (dq_10 ha hb c0 c1 c8)
                    · skip
                      refine ⟨fun c9 => ?_, fun c9 => ?_⟩
                      · skip
                        refine ⟨fun c10 => ?_, fun c10 => ?_⟩
                        · skip
                          refine ⟨fun c11 => ?_, fun c11 => ?_⟩
                          · skip
                            show False
                            (have hm := (bmay_iff b).1 c1; have h1 := of_decide_eq_true c10; have h2 := eqz c11; omega)
                          · skip
                            refine ⟨fun c12 => ?_, fun c12 => ?_⟩
                            · skip
                              show False
                              (have hm := (bmay_iff b).1 c1; have h1 := of_decide_eq_true c10; have h2 := eqz c12; omega)
                            · skip
                              rintro ⟨e18, e19, e20, e21⟩
                              (try simp only [e18, e19, e20, e21, Pi.eta, Pu.eta, Rg.eta])
                              (try clear e18 e19 e20 e21)
                              all_goals
                                refine congrArg some ?_
                                exact agg_Rg (dq_3 ha hb c0 c1 c9 c10)
                        · skip
                          rintro ⟨e18, e19, e20, e21⟩
                          (try simp only [e18, e19, e20, e21, Pi.eta, Pu.eta, Rg.eta])
                          (try clear e18 e19 e20 e21)
                          all_goals
                            refine congrArg some ?_
                            exact agg_Rg (dq_3n ha hb c0 c1 c9 c10)
                      · skip
                        refine ⟨fun c13 => ?_, fun c13 => ?_⟩
                        · skip
                          refine ⟨fun c14 => ?_, fun c14 => ?_⟩
                          · skip
                            rintro ⟨e18, e19, e20, e21⟩
                            (try simp only [e18, e19, e20, e21, Pi.eta, Pu.eta, Rg.eta])
                            (try clear e18 e19 e20 e21)
                            all_goals
                              refine congrArg some ?_
                              exact agg_Rg (dq_9 ha hb c0 c1 c13 c14)
                          · skip
                            rintro ⟨e18, e19, e20, e21⟩
                            (try simp only [e18, e19, e20, e21, Pi.eta, Pu.eta, Rg.eta])
                            (try clear e18 e19 e20 e21)
                            all_goals
                              refine congrArg some ?_
                              exact agg_Rg (dq_9n ha hb c0 c1 c13 c14)
                        · skip
                          refine ⟨fun c15 => ?_, fun c15 => ?_⟩
                          · skip
                            refine ⟨fun c16 => ?_, fun c16 => ?_⟩
                            · skip
                              rintro ⟨e18, e19, e20, e21⟩
                              (try simp only [e18, e19, e20, e21, Pi.eta, Pu.eta, Rg.eta])
                              (try clear e18 e19 e20 e21)
                              all_goals
                                refine congrArg some ?_
                                exact agg_Rg (dq_7 ha hb c0 c1 c15 c16)
                            · skip
                              rintro ⟨e18, e19, e20, e21⟩
                              (try simp only [e18, e19, e20, e21, Pi.eta, Pu.eta, Rg.eta])
                              (try clear e18 e19 e20 e21)
                              all_goals
                                refine congrArg some ?_
                                exact agg_Rg (dq_7n ha hb c0 c1 c15 c16)
                          · skip
                            refine ⟨fun c17 => ?_, fun c17 => ?_⟩
                            · skip
                              refine ⟨fun c18 => ?_, fun c18 => ?_⟩
                              · skip
                                intro e18
                                (try simp only [e18, Pi.eta, Pu.eta, Rg.eta])
                                (try clear e18)
                                refine ⟨fun c19 => ?_, fun c19 => ?_⟩
                                · skip
                                  rintro ⟨e19, e20, e21, e22⟩
                                  (try simp only [e19, e20, e21, e22, Pi.eta, Pu.eta, Rg.eta])
                                  (try clear e19 e20 e21 e22)
                                  all_goals
                                    refine congrArg some ?_
                                    exact agg_Rg (dq_6n ha hb c0 c1 c17 c18 c19)
                                · skip
                                  rintro ⟨e19, e20, e21, e22⟩
                                  (try simp only [e19, e20, e21, e22, Pi.eta, Pu.eta, Rg.eta])
                                  (try clear e19 e20 e21 e22)
                                  all_goals
                                    refine congrArg some ?_
                                    exact agg_Rg (dq_6 ha hb c0 c1 c17 c18 c19)
                              · skip
                                rintro ⟨e18, e19, e20, e21⟩
                                (try simp only [e18, e19, e20, e21, Pi.eta, Pu.eta, Rg.eta])
                                (try clear e18 e19 e20 e21)
                                all_goals
                                  refine congrArg some ?_
                                  exact agg_Rg (dq_6m ha hb c0 c1 c17 c18)
                            · skip
                              rintro ⟨e18, e19, e20, e21⟩
                              (try simp only [e18, e19, e20, e21, Pi.eta, Pu.eta, Rg.eta])
                              (try clear e18 e19 e20 e21)
                              all_goals
                                refine congrArg some ?_
                                exact agg_Rg (dq_x ha hb c0 c1 c3 c4 c5 c6 c7 c8 c9 c13 c15 c17)
      · skip
        rintro ⟨e11, e12, e13, e14⟩
        (try simp only [e11, e12, e13, e14, Pi.eta, Pu.eta, Rg.eta])
        (try clear e11 e12 e13 e14)
        all_goals
          refine congrArg some ?_
          exact agg_Rg (dq_bad (.inr c1))
    · skip
      rintro ⟨e10, e11, e12, e13⟩
      (try simp only [e10, e11, e12, e13, Pi.eta, Pu.eta, Rg.eta])
      (try clear e10 e11 e12 e13)
      all_goals
        refine congrArg some ?_
        exact agg_Rg (dq_bad (.inl c0))
def sM_do (key : Nat) : Sm := ⟨32, key, [(false, [.int .i8]), (true, [.int .u64, .int .u64, .int .i64, .int .i64]), (true, [.int .u64, .int .u64, .int .i64, .int .i64])], [(true, [.int .u64, .int .u64, .int .i64, .int .i64])], false⟩
def sI_do : Nat → List Int → Int
  | 0, [x0, x1, x2, x3, x4, x5, x6, x7, x8] => (fun (op : Int) (a : Rg) (b : Rg) => (bdo op a b).ul) x0 ⟨x1, x2, x3, x4⟩ ⟨x5, x6, x7, x8⟩
  | 1, [x0, x1, x2, x3, x4, x5, x6, x7, x8] => (fun (op : Int) (a : Rg) (b : Rg) => (bdo op a b).uh) x0 ⟨x1, x2, x3, x4⟩ ⟨x5, x6, x7, x8⟩
  | 2, [x0, x1, x2, x3, x4, x5, x6, x7, x8] => (fun (op : Int) (a : Rg) (b : Rg) => (bdo op a b).sl) x0 ⟨x1, x2, x3, x4⟩ ⟨x5, x6, x7, x8⟩
  | 3, [x0, x1, x2, x3, x4, x5, x6, x7, x8] => (fun (op : Int) (a : Rg) (b : Rg) => (bdo op a b).sh) x0 ⟨x1, x2, x3, x4⟩ ⟨x5, x6, x7, x8⟩
  | _, _ => 0
def sB_do : Nat → List Int → Bool
  | _, _ => false
theorem sK_do {sp : Spec} {key : Nat} (hI : sp.I key = sI_do) (hB : sp.B key = sB_do) : SmOk Try.prog sp (sM_do key) := by
  refine SmOk.of (.inl ⟨run_enter Try.func32 (by kernel_rfl) (by kernel_rfl), fun xs vals h => ?_⟩) (.inr (.inl ⟨_, rfl⟩))
  obtain ⟨_, _, _, d1, h1, rfl⟩ := shO h
  obtain ⟨x0, rfl, rfl, gx0⟩ := ckI d1
  obtain ⟨_, _, _, p2, h2, rfl⟩ := shA h1
  obtain ⟨_, _, _, d2_0, p2_0, rfl⟩ := cksC p2
  obtain ⟨x1, rfl, rfl, gx1⟩ := ckI d2_0
  obtain ⟨_, _, _, d2_1, p2_1, rfl⟩ := cksC p2_0
  obtain ⟨x2, rfl, rfl, gx2⟩ := ckI d2_1
  obtain ⟨_, _, _, d2_2, p2_2, rfl⟩ := cksC p2_1
  obtain ⟨x3, rfl, rfl, gx3⟩ := ckI d2_2
  obtain ⟨_, _, _, d2_3, p2_3, rfl⟩ := cksC p2_2
  obtain ⟨x4, rfl, rfl, gx4⟩ := ckI d2_3
  obtain ⟨rfl, rfl⟩ := cksN p2_3
  obtain ⟨_, _, _, p3, h3, rfl⟩ := shA h2
  obtain ⟨_, _, _, d3_0, p3_0, rfl⟩ := cksC p3
  obtain ⟨x5, rfl, rfl, gx5⟩ := ckI d3_0
  obtain ⟨_, _, _, d3_1, p3_1, rfl⟩ := cksC p3_0
  obtain ⟨x6, rfl, rfl, gx6⟩ := ckI d3_1
  obtain ⟨_, _, _, d3_2, p3_2, rfl⟩ := cksC p3_1
  obtain ⟨x7, rfl, rfl, gx7⟩ := ckI d3_2
  obtain ⟨_, _, _, d3_3, p3_3, rfl⟩ := cksC p3_2
  obtain ⟨x8, rfl, rfl, gx8⟩ := ckI d3_3
  obtain ⟨rfl, rfl⟩ := cksN p3_3
  obtain ⟨rfl, rfl⟩ := shN h3
  refine ⟨_, sX_do x0 gx0 ⟨x1, x2, x3, x4⟩ ⟨gx1, gx2, gx3, gx4⟩ ⟨x5, x6, x7, x8⟩ ⟨gx5, gx6, gx7, gx8⟩, fun ρ v0 he => ?_⟩
  have he' : ρ.i (v0 + 0) = sp.I key 0 [x0, x1, x2, x3, x4, x5, x6, x7, x8] ∧ ρ.i (v0 + 1) = sp.I key 1 [x0, x1, x2, x3, x4, x5, x6, x7, x8] ∧ ρ.i (v0 + 2) = sp.I key 2 [x0, x1, x2, x3, x4, x5, x6, x7, x8] ∧ ρ.i (v0 + 3) = sp.I key 3 [x0, x1, x2, x3, x4, x5, x6, x7, x8] ∧ True := he
  simp only [hI, hB] at he'
  obtain ⟨e0, e1, e2, e3, -⟩ := he'
  show some (.agg #[.int .u64 (ρ.i (v0 + 0)), .int .u64 (ρ.i (v0 + 1)), .int .i64 (ρ.i (v0 + 2)), .int .i64 (ρ.i (v0 + 3))] : Value) = _
  rw [e0, e1, e2, e3]
  rfl
end Go.Proofs.Ytcngfmhhaleoaaa

/- Contracts of Given of package bounds and of what it takes, by the symbolic run. -/
set_option linter.unusedVariables false
set_option linter.unusedSimpArgs false
namespace Go.Proofs.Ytcngfmhhaleoaaa
open Go.RowKit Go.ChangeShapes Go.WideShapes

def tys_XbE : List (Nat × TI) := [(2, ⟨false, 1, [.int .i64 (.lit 0)], [], none, some .i64, false, false⟩),
  (22, ⟨false, 1, [.int .u64 (.lit 0)], [], none, some .u64, false, false⟩),
  (24, ⟨true, 4, [.int .u64 (.lit 0), .int .u64 (.lit 0), .int .i64 (.lit 0), .int .i64 (.lit 0)], [(0, 22), (1, 22), (2, 2), (3, 2)], none, none, false, false⟩),
  (33, ⟨false, 1, [.int .i8 (.lit 0)], [], none, some .i8, false, false⟩),
  (69, ⟨true, 2, [.int .u64 (.lit 0), .int .u64 (.lit 0)], [(0, 22), (1, 22)], none, none, false, false⟩),
  (72, ⟨true, 2, [.int .i64 (.lit 0), .int .i64 (.lit 0)], [(0, 2), (1, 2)], none, none, false, false⟩)]
set_option maxRecDepth 100000 in
theorem tysck_XbE : (tys_XbE.all fun p => ckTI Try.prog p.1 p.2) = true := by kernel_rfl
theorem tysne_XbE : (tys_XbE.all fun p => !p.2.eqok) = true := by kernel_rfl
theorem tysok_XbE : ∀ t i, (t, i) ∈ tys_XbE → TIok Try.prog t i := by
  intro t i h
  have h1 := all_at (f := fun _ i => !i.eqok) tysne_XbE h
  exact TIok_of (all_at (f := ckTI Try.prog) tysck_XbE h) (fun he => by simp [he] at h1) (fun he => by simp [he] at h1)
theorem sX_bits (op : Int) (hop : inK .i8 op = true) (l : Int) (hl : inK .i8 l = true) (x : Int) (hx : inK .u64 x = true) (y : Int) (hy : inK .u64 y = true) : (∀ w, Calls Try.prog 38 #[.int .i8 op, .int .i8 l, .int .u64 x, .int .u64 y] w fun e w' => e = .returned (.tuple #[.int .u64 (if okop op l = true then zdo op l x y else 0), .int .i64 (if okop op l = true then 0 else 2)]) ∧ Ext w w') ∧ valIn (.tuple #[.int .u64 (if okop op l = true then zdo op l x y else 0), .int .i64 (if okop op l = true then 0 else 2)]) = true := by
  have gx := inK_u64 hx
  have gy := inK_u64 hy
  cases hk : okop op l
  · refine ⟨fun w => (do_bad op l x y w ?_).mono ?_, by simp [valIn, partIn, cellIn]; decide⟩
    · unfold okop at hk
      rw [Bool.and_eq_false_iff, Bool.and_eq_false_iff] at hk
      rcases hk with (hk | hk) | hk
      · have := of_decide_eq_false hk
        simp; omega
      · have := of_decide_eq_false hk
        simp; omega
      · rw [hk]; simp
    · rintro e w' ⟨rfl, rfl⟩
      exact ⟨by simp, Ext.refl _⟩
  · unfold okop at hk
    simp only [Bool.and_eq_true, decide_eq_true_eq] at hk
    have hz := u64_inK (zdo_bd op l x y gx.1 gx.2 gy.1 gy.2)
    refine ⟨fun w => (do_any op l x y w gx.1 gx.2 gy.1 gy.2 hk.1.1 hk.1.2 hk.2).mono ?_, by simp [valIn, partIn, cellIn, hz]; decide⟩
    rintro e w' ⟨rfl, hx⟩
    exact ⟨by simp, hx⟩
def sM_bits (key : Nat) : Sm := ⟨38, key, [(false, [.int .i8]), (false, [.int .i8]), (false, [.int .u64]), (false, [.int .u64])], [(false, [.int .u64]), (false, [.int .i64])], true⟩
def sI_bits : Nat → List Int → Int
  | 0, [x0, x1, x2, x3] => (fun (op : Int) (l : Int) (x : Int) (y : Int) => if okop op l = true then zdo op l x y else 0) x0 x1 x2 x3
  | 1, [x0, x1, x2, x3] => (fun (op : Int) (l : Int) (x : Int) (y : Int) => if okop op l = true then 0 else 2) x0 x1 x2 x3
  | _, _ => 0
def sB_bits : Nat → List Int → Bool
  | _, _ => false
theorem sK_bits {sp : Spec} {key : Nat} (hI : sp.I key = sI_bits) (hB : sp.B key = sB_bits) : SmOk Try.prog sp (sM_bits key) := by
  refine SmOk.of (.inl ⟨run_enter Try.func38 (by kernel_rfl) (by kernel_rfl), fun xs vals h => ?_⟩) (.inl rfl)
  obtain ⟨_, _, _, d1, h1, rfl⟩ := shO h
  obtain ⟨x0, rfl, rfl, gx0⟩ := ckI d1
  obtain ⟨_, _, _, d2, h2, rfl⟩ := shO h1
  obtain ⟨x1, rfl, rfl, gx1⟩ := ckI d2
  obtain ⟨_, _, _, d3, h3, rfl⟩ := shO h2
  obtain ⟨x2, rfl, rfl, gx2⟩ := ckI d3
  obtain ⟨_, _, _, d4, h4, rfl⟩ := shO h3
  obtain ⟨x3, rfl, rfl, gx3⟩ := ckI d4
  obtain ⟨rfl, rfl⟩ := shN h4
  refine ⟨_, sX_bits x0 gx0 x1 gx1 x2 gx2 x3 gx3, fun ρ v0 he => ?_⟩
  have he' : ρ.i (v0 + 0) = sp.I key 0 [x0, x1, x2, x3] ∧ ρ.i (v0 + 1) = sp.I key 1 [x0, x1, x2, x3] ∧ True := he
  simp only [hI, hB] at he'
  obtain ⟨e0, e1, -⟩ := he'
  show some (.tuple #[.int .u64 (ρ.i (v0 + 0)), .int .i64 (ρ.i (v0 + 1))] : Value) = _
  rw [e0, e1]
  rfl
theorem sX_rcut (x : Int) (hx : inK .u64 x = true) (l : Int) (hl : inK .i8 l = true) : (∀ w, Calls Try.prog 37 #[.int .u64 x, .int .i8 l] w fun e w' => e = .returned (.int .u64 (zcut x l)) ∧ Ext w w') ∧ valIn (.int .u64 (zcut x l)) = true := by
  have gx := inK_u64 hx
  have hz := u64_inK (zcut_bd x l gx.1 gx.2)
  exact ⟨fun w => (rcut_any x l w gx.1 gx.2).mono (by rintro e w' ⟨rfl, rfl⟩; exact ⟨rfl, Ext.refl _⟩), hz⟩
def sM_rcut (key : Nat) : Sm := ⟨37, key, [(false, [.int .u64]), (false, [.int .i8])], [(false, [.int .u64])], false⟩
def sI_rcut : Nat → List Int → Int
  | 0, [x0, x1] => (fun (x : Int) (l : Int) => zcut x l) x0 x1
  | _, _ => 0
def sB_rcut : Nat → List Int → Bool
  | _, _ => false
theorem sK_rcut {sp : Spec} {key : Nat} (hI : sp.I key = sI_rcut) (hB : sp.B key = sB_rcut) : SmOk Try.prog sp (sM_rcut key) := by
  refine SmOk.of (.inl ⟨run_enter Try.func37 (by kernel_rfl) (by kernel_rfl), fun xs vals h => ?_⟩) (.inr (.inr ⟨_, rfl⟩))
  obtain ⟨_, _, _, d1, h1, rfl⟩ := shO h
  obtain ⟨x0, rfl, rfl, gx0⟩ := ckI d1
  obtain ⟨_, _, _, d2, h2, rfl⟩ := shO h1
  obtain ⟨x1, rfl, rfl, gx1⟩ := ckI d2
  obtain ⟨rfl, rfl⟩ := shN h2
  refine ⟨_, sX_rcut x0 gx0 x1 gx1, fun ρ v0 he => ?_⟩
  have he' : ρ.i (v0 + 0) = sp.I key 0 [x0, x1] ∧ True := he
  simp only [hI, hB] at he'
  obtain ⟨e0, -⟩ := he'
  show some (.int .u64 (ρ.i (v0 + 0)) : Value) = _
  rw [e0]
  rfl
def sT_uwo : Tr :=
(.br (.eq (.var 0) (.var 2))
 (.br (.eq (.var 1) (.var 2))
  (.leaf (.tup [(true, [.int .u64 (.var 0), .int .u64 (.var 1)]), (false, [.bool (.tt false)])]))
  (.leaf (.tup [(true, [.int .u64 (.bin .add .u64 (.var 0) (.lit 1)), .int .u64 (.var 1)]), (false, [.bool (.tt true)])])))
 (.br (.eq (.var 1) (.var 2))
  (.leaf (.tup [(true, [.int .u64 (.var 0), .int .u64 (.bin .sub .u64 (.var 1) (.lit 1))]), (false, [.bool (.tt true)])]))
  (.leaf (.tup [(true, [.int .u64 (.var 0), .int .u64 (.var 1)]), (false, [.bool (.tt true)])]))))
def sP_uwo : Spec := ⟨fun k => match k with | _ => fun _ _ => 0, fun k => match k with | _ => fun _ _ => false⟩
set_option maxRecDepth 100000 in
theorem sR_uwo : funK ⟨tys_XbE, []⟩ 200 Try.f60 [.agg [.int .u64 (.var 0), .int .u64 (.var 1)], .one (.int .u64 (.var 2))] ⟨[], [], [some .u64, some .u64, some .u64]⟩ = sT_uwo := by kernel_rfl
set_option maxRecDepth 100000 in
set_option maxHeartbeats 8000000 in
theorem sX_uwo (a : Pu) (ha : Pu.ok a) (v : Int) (hv : inK .u64 v = true) : (∀ w, Calls Try.prog 60 #[.agg #[.int .u64 a.lo, .int .u64 a.hi], .int .u64 v] w fun e w' => e = .returned (.tuple #[.agg #[.int .u64 ((⟨if (a.lo == v) = true ∧ (a.hi == v) = false then IntKind.u64.wrap (a.lo + 1) else a.lo, if (a.lo == v) = false ∧ (a.hi == v) = true then IntKind.u64.wrap (a.hi - 1) else a.hi⟩ : Pu)).lo, .int .u64 ((⟨if (a.lo == v) = true ∧ (a.hi == v) = false then IntKind.u64.wrap (a.lo + 1) else a.lo, if (a.lo == v) = false ∧ (a.hi == v) = true then IntKind.u64.wrap (a.hi - 1) else a.hi⟩ : Pu)).hi], .bool ((!((a.lo == v) && (a.hi == v))))]) ∧ Ext w w') ∧ valIn (.tuple #[.agg #[.int .u64 ((⟨if (a.lo == v) = true ∧ (a.hi == v) = false then IntKind.u64.wrap (a.lo + 1) else a.lo, if (a.lo == v) = false ∧ (a.hi == v) = true then IntKind.u64.wrap (a.hi - 1) else a.hi⟩ : Pu)).lo, .int .u64 ((⟨if (a.lo == v) = true ∧ (a.hi == v) = false then IntKind.u64.wrap (a.lo + 1) else a.lo, if (a.lo == v) = false ∧ (a.hi == v) = true then IntKind.u64.wrap (a.hi - 1) else a.hi⟩ : Pu)).hi], .bool ((!((a.lo == v) && (a.hi == v))))]) = true := by
  refine fun_calls (cx := ⟨tys_XbE, []⟩) (sp := sP_uwo) (t := sT_uwo) (by kernel_rfl) tysok_XbE (fun _ h => (by cases h)) (keys_of (by kernel_rfl)) Try.func60 ⟨fun n => ([a.lo, a.hi, v] : List Int).getD n 0, fun n => ([false, false, false] : List Bool).getD n false⟩ sR_uwo (by kernel_rfl) ?_ rfl (by intro p hp; cases hp) ?_ ?_
  · intro n k hk
    have hlt : n < 3 := by
      rcases Nat.lt_or_ge n 3 with h | h
      · exact h
      · rw [List.getElem?_eq_none h] at hk; cases hk
    rcases (show n = 0 ∨ n = 1 ∨ n = 2 by omega) with rfl | rfl | rfl
    · cases hk; exact ha.1
    · cases hk; exact ha.2
    · cases hk; exact hv
  · intro ρ hag
    have g0 : ρ.i 0 = a.lo := (hag 0 (by decide)).1.symm
    have g1 : ρ.i 1 = a.hi := (hag 1 (by decide)).1.symm
    have g2 : ρ.i 2 = v := (hag 2 (by decide)).1.symm
    show some ([.agg #[.int .u64 (ρ.i 0), .int .u64 (ρ.i 1)], .int .u64 (ρ.i 2)] : List Value) = _
    rw [g0, g1, g2]
  · intro ρ hag
    have g0 : ρ.i 0 = a.lo := (hag 0 (by decide)).1.symm
    have g1 : ρ.i 1 = a.hi := (hag 1 (by decide)).1.symm
    have g2 : ρ.i 2 = v := (hag 2 (by decide)).1.symm
    simp only [sT_uwo, Tr.asks, eqs, E.I, E.B, E.L, V.den, C.den, denL, den0, den0L, Option.map_some, Nat.add_zero, Nat.reduceAdd, and_true, Pu.eta, g0, g1, g2]
    refine ⟨fun c0 => ?_, fun c0 => ?_⟩
    · skip
      refine ⟨fun c1 => ?_, fun c1 => ?_⟩
      · skip
        all_goals
          refine congrArg some ?_
          (simp_all [opI])
      · skip
        all_goals
          refine congrArg some ?_
          (simp_all [opI])
    · skip
      refine ⟨fun c2 => ?_, fun c2 => ?_⟩
      · skip
        all_goals
          refine congrArg some ?_
          (simp_all [opI])
      · skip
        all_goals
          refine congrArg some ?_
          (simp_all [opI])
def sM_uwo (key : Nat) : Sm := ⟨60, key, [(true, [.int .u64, .int .u64]), (false, [.int .u64])], [(true, [.int .u64, .int .u64]), (false, [.bool])], true⟩
def sI_uwo : Nat → List Int → Int
  | 0, [x0, x1, x2] => (fun (a : Pu) (v : Int) => ((⟨if (a.lo == v) = true ∧ (a.hi == v) = false then IntKind.u64.wrap (a.lo + 1) else a.lo, if (a.lo == v) = false ∧ (a.hi == v) = true then IntKind.u64.wrap (a.hi - 1) else a.hi⟩ : Pu)).lo) ⟨x0, x1⟩ x2
  | 1, [x0, x1, x2] => (fun (a : Pu) (v : Int) => ((⟨if (a.lo == v) = true ∧ (a.hi == v) = false then IntKind.u64.wrap (a.lo + 1) else a.lo, if (a.lo == v) = false ∧ (a.hi == v) = true then IntKind.u64.wrap (a.hi - 1) else a.hi⟩ : Pu)).hi) ⟨x0, x1⟩ x2
  | _, _ => 0
def sB_uwo : Nat → List Int → Bool
  | 2, [x0, x1, x2] => (fun (a : Pu) (v : Int) => (!((a.lo == v) && (a.hi == v)))) ⟨x0, x1⟩ x2
  | _, _ => false
theorem sK_uwo {sp : Spec} {key : Nat} (hI : sp.I key = sI_uwo) (hB : sp.B key = sB_uwo) : SmOk Try.prog sp (sM_uwo key) := by
  refine SmOk.of (.inl ⟨run_enter Try.func60 (by kernel_rfl) (by kernel_rfl), fun xs vals h => ?_⟩) (.inl rfl)
  obtain ⟨_, _, _, p1, h1, rfl⟩ := shA h
  obtain ⟨_, _, _, d1_0, p1_0, rfl⟩ := cksC p1
  obtain ⟨x0, rfl, rfl, gx0⟩ := ckI d1_0
  obtain ⟨_, _, _, d1_1, p1_1, rfl⟩ := cksC p1_0
  obtain ⟨x1, rfl, rfl, gx1⟩ := ckI d1_1
  obtain ⟨rfl, rfl⟩ := cksN p1_1
  obtain ⟨_, _, _, d2, h2, rfl⟩ := shO h1
  obtain ⟨x2, rfl, rfl, gx2⟩ := ckI d2
  obtain ⟨rfl, rfl⟩ := shN h2
  refine ⟨_, sX_uwo ⟨x0, x1⟩ ⟨gx0, gx1⟩ x2 gx2, fun ρ v0 he => ?_⟩
  have he' : ρ.i (v0 + 0) = sp.I key 0 [x0, x1, x2] ∧ ρ.i (v0 + 1) = sp.I key 1 [x0, x1, x2] ∧ ρ.b (v0 + 2) = sp.B key 2 [x0, x1, x2] ∧ True := he
  simp only [hI, hB] at he'
  obtain ⟨e0, e1, e2, -⟩ := he'
  show some (.tuple #[.agg #[.int .u64 (ρ.i (v0 + 0)), .int .u64 (ρ.i (v0 + 1))], .bool (ρ.b (v0 + 2))] : Value) = _
  rw [e0, e1, e2]
  rfl
def sT_iwo : Tr :=
(.br (.eq (.var 0) (.var 2))
 (.br (.eq (.var 1) (.var 2))
  (.leaf (.tup [(true, [.int .i64 (.var 0), .int .i64 (.var 1)]), (false, [.bool (.tt false)])]))
  (.leaf (.tup [(true, [.int .i64 (.bin .add .i64 (.var 0) (.lit 1)), .int .i64 (.var 1)]), (false, [.bool (.tt true)])])))
 (.br (.eq (.var 1) (.var 2))
  (.leaf (.tup [(true, [.int .i64 (.var 0), .int .i64 (.bin .sub .i64 (.var 1) (.lit 1))]), (false, [.bool (.tt true)])]))
  (.leaf (.tup [(true, [.int .i64 (.var 0), .int .i64 (.var 1)]), (false, [.bool (.tt true)])]))))
def sP_iwo : Spec := ⟨fun k => match k with | _ => fun _ _ => 0, fun k => match k with | _ => fun _ _ => false⟩
set_option maxRecDepth 100000 in
theorem sR_iwo : funK ⟨tys_XbE, []⟩ 200 Try.f61 [.agg [.int .i64 (.var 0), .int .i64 (.var 1)], .one (.int .i64 (.var 2))] ⟨[], [], [some .i64, some .i64, some .i64]⟩ = sT_iwo := by kernel_rfl
set_option maxRecDepth 100000 in
set_option maxHeartbeats 8000000 in
theorem sX_iwo (a : Pi) (ha : Pi.ok a) (v : Int) (hv : inK .i64 v = true) : (∀ w, Calls Try.prog 61 #[.agg #[.int .i64 a.lo, .int .i64 a.hi], .int .i64 v] w fun e w' => e = .returned (.tuple #[.agg #[.int .i64 ((⟨if (a.lo == v) = true ∧ (a.hi == v) = false then IntKind.i64.wrap (a.lo + 1) else a.lo, if (a.lo == v) = false ∧ (a.hi == v) = true then IntKind.i64.wrap (a.hi - 1) else a.hi⟩ : Pi)).lo, .int .i64 ((⟨if (a.lo == v) = true ∧ (a.hi == v) = false then IntKind.i64.wrap (a.lo + 1) else a.lo, if (a.lo == v) = false ∧ (a.hi == v) = true then IntKind.i64.wrap (a.hi - 1) else a.hi⟩ : Pi)).hi], .bool ((!((a.lo == v) && (a.hi == v))))]) ∧ Ext w w') ∧ valIn (.tuple #[.agg #[.int .i64 ((⟨if (a.lo == v) = true ∧ (a.hi == v) = false then IntKind.i64.wrap (a.lo + 1) else a.lo, if (a.lo == v) = false ∧ (a.hi == v) = true then IntKind.i64.wrap (a.hi - 1) else a.hi⟩ : Pi)).lo, .int .i64 ((⟨if (a.lo == v) = true ∧ (a.hi == v) = false then IntKind.i64.wrap (a.lo + 1) else a.lo, if (a.lo == v) = false ∧ (a.hi == v) = true then IntKind.i64.wrap (a.hi - 1) else a.hi⟩ : Pi)).hi], .bool ((!((a.lo == v) && (a.hi == v))))]) = true := by
  refine fun_calls (cx := ⟨tys_XbE, []⟩) (sp := sP_iwo) (t := sT_iwo) (by kernel_rfl) tysok_XbE (fun _ h => (by cases h)) (keys_of (by kernel_rfl)) Try.func61 ⟨fun n => ([a.lo, a.hi, v] : List Int).getD n 0, fun n => ([false, false, false] : List Bool).getD n false⟩ sR_iwo (by kernel_rfl) ?_ rfl (by intro p hp; cases hp) ?_ ?_
  · intro n k hk
    have hlt : n < 3 := by
      rcases Nat.lt_or_ge n 3 with h | h
      · exact h
      · rw [List.getElem?_eq_none h] at hk; cases hk
    rcases (show n = 0 ∨ n = 1 ∨ n = 2 by omega) with rfl | rfl | rfl
    · cases hk; exact ha.1
    · cases hk; exact ha.2
    · cases hk; exact hv
  · intro ρ hag
    have g0 : ρ.i 0 = a.lo := (hag 0 (by decide)).1.symm
    have g1 : ρ.i 1 = a.hi := (hag 1 (by decide)).1.symm
    have g2 : ρ.i 2 = v := (hag 2 (by decide)).1.symm
    show some ([.agg #[.int .i64 (ρ.i 0), .int .i64 (ρ.i 1)], .int .i64 (ρ.i 2)] : List Value) = _
    rw [g0, g1, g2]
  · intro ρ hag
    have g0 : ρ.i 0 = a.lo := (hag 0 (by decide)).1.symm
    have g1 : ρ.i 1 = a.hi := (hag 1 (by decide)).1.symm
    have g2 : ρ.i 2 = v := (hag 2 (by decide)).1.symm
    simp only [sT_iwo, Tr.asks, eqs, E.I, E.B, E.L, V.den, C.den, denL, den0, den0L, Option.map_some, Nat.add_zero, Nat.reduceAdd, and_true, Pi.eta, g0, g1, g2]
    refine ⟨fun c0 => ?_, fun c0 => ?_⟩
    · skip
      refine ⟨fun c1 => ?_, fun c1 => ?_⟩
      · skip
        all_goals
          refine congrArg some ?_
          (simp_all [opI])
      · skip
        all_goals
          refine congrArg some ?_
          (simp_all [opI])
    · skip
      refine ⟨fun c2 => ?_, fun c2 => ?_⟩
      · skip
        all_goals
          refine congrArg some ?_
          (simp_all [opI])
      · skip
        all_goals
          refine congrArg some ?_
          (simp_all [opI])
def sM_iwo (key : Nat) : Sm := ⟨61, key, [(true, [.int .i64, .int .i64]), (false, [.int .i64])], [(true, [.int .i64, .int .i64]), (false, [.bool])], true⟩
def sI_iwo : Nat → List Int → Int
  | 0, [x0, x1, x2] => (fun (a : Pi) (v : Int) => ((⟨if (a.lo == v) = true ∧ (a.hi == v) = false then IntKind.i64.wrap (a.lo + 1) else a.lo, if (a.lo == v) = false ∧ (a.hi == v) = true then IntKind.i64.wrap (a.hi - 1) else a.hi⟩ : Pi)).lo) ⟨x0, x1⟩ x2
  | 1, [x0, x1, x2] => (fun (a : Pi) (v : Int) => ((⟨if (a.lo == v) = true ∧ (a.hi == v) = false then IntKind.i64.wrap (a.lo + 1) else a.lo, if (a.lo == v) = false ∧ (a.hi == v) = true then IntKind.i64.wrap (a.hi - 1) else a.hi⟩ : Pi)).hi) ⟨x0, x1⟩ x2
  | _, _ => 0
def sB_iwo : Nat → List Int → Bool
  | 2, [x0, x1, x2] => (fun (a : Pi) (v : Int) => (!((a.lo == v) && (a.hi == v)))) ⟨x0, x1⟩ x2
  | _, _ => false
theorem sK_iwo {sp : Spec} {key : Nat} (hI : sp.I key = sI_iwo) (hB : sp.B key = sB_iwo) : SmOk Try.prog sp (sM_iwo key) := by
  refine SmOk.of (.inl ⟨run_enter Try.func61 (by kernel_rfl) (by kernel_rfl), fun xs vals h => ?_⟩) (.inl rfl)
  obtain ⟨_, _, _, p1, h1, rfl⟩ := shA h
  obtain ⟨_, _, _, d1_0, p1_0, rfl⟩ := cksC p1
  obtain ⟨x0, rfl, rfl, gx0⟩ := ckI d1_0
  obtain ⟨_, _, _, d1_1, p1_1, rfl⟩ := cksC p1_0
  obtain ⟨x1, rfl, rfl, gx1⟩ := ckI d1_1
  obtain ⟨rfl, rfl⟩ := cksN p1_1
  obtain ⟨_, _, _, d2, h2, rfl⟩ := shO h1
  obtain ⟨x2, rfl, rfl, gx2⟩ := ckI d2
  obtain ⟨rfl, rfl⟩ := shN h2
  refine ⟨_, sX_iwo ⟨x0, x1⟩ ⟨gx0, gx1⟩ x2 gx2, fun ρ v0 he => ?_⟩
  have he' : ρ.i (v0 + 0) = sp.I key 0 [x0, x1, x2] ∧ ρ.i (v0 + 1) = sp.I key 1 [x0, x1, x2] ∧ ρ.b (v0 + 2) = sp.B key 2 [x0, x1, x2] ∧ True := he
  simp only [hI, hB] at he'
  obtain ⟨e0, e1, e2, -⟩ := he'
  show some (.tuple #[.agg #[.int .i64 (ρ.i (v0 + 0)), .int .i64 (ρ.i (v0 + 1))], .bool (ρ.b (v0 + 2))] : Value) = _
  rw [e0, e1, e2]
  rfl
def sT_uabove : Tr :=
(.br (.bvar 4)
 (.br (.eq (.var 2) (.var 5))
  (.leaf (.tup [(true, [.int .u64 (.var 0), .int .u64 (.var 1)]), (false, [.bool (.tt false)])]))
  (.leaf (.tup [(true, [.int .u64 (.mx (.var 0) (.bin .add .u64 (.var 2) (.lit 1))), .int .u64 (.var 1)]), (false, [.bool (.tt true)])])))
 (.leaf (.tup [(true, [.int .u64 (.mx (.var 0) (.var 2)), .int .u64 (.var 1)]), (false, [.bool (.tt true)])])))
def sP_uabove : Spec := ⟨fun k => match k with | _ => fun _ _ => 0, fun k => match k with | _ => fun _ _ => false⟩
set_option maxRecDepth 100000 in
theorem sR_uabove : funK ⟨tys_XbE, []⟩ 200 Try.f62 [.agg [.int .u64 (.var 0), .int .u64 (.var 1)], .agg [.int .u64 (.var 2), .int .u64 (.var 3)], .one (.bool (.bvar 4)), .one (.int .u64 (.var 5))] ⟨[], [], [some .u64, some .u64, some .u64, some .u64, none, some .u64]⟩ = sT_uabove := by kernel_rfl
set_option maxRecDepth 100000 in
set_option maxHeartbeats 8000000 in
theorem sX_uabove (a : Pu) (ha : Pu.ok a) (b : Pu) (hb : Pu.ok b) (t : Bool) (m : Int) (hm : inK .u64 m = true) : (∀ w, Calls Try.prog 62 #[.agg #[.int .u64 a.lo, .int .u64 a.hi], .agg #[.int .u64 b.lo, .int .u64 b.hi], .bool t, .int .u64 m] w fun e w' => e = .returned (.tuple #[.agg #[.int .u64 ((⟨if t = true ∧ (b.lo == m) = true then a.lo else max a.lo (if t = true then IntKind.u64.wrap (b.lo + 1) else b.lo), a.hi⟩ : Pu)).lo, .int .u64 ((⟨if t = true ∧ (b.lo == m) = true then a.lo else max a.lo (if t = true then IntKind.u64.wrap (b.lo + 1) else b.lo), a.hi⟩ : Pu)).hi], .bool ((!(t && (b.lo == m))))]) ∧ Ext w w') ∧ valIn (.tuple #[.agg #[.int .u64 ((⟨if t = true ∧ (b.lo == m) = true then a.lo else max a.lo (if t = true then IntKind.u64.wrap (b.lo + 1) else b.lo), a.hi⟩ : Pu)).lo, .int .u64 ((⟨if t = true ∧ (b.lo == m) = true then a.lo else max a.lo (if t = true then IntKind.u64.wrap (b.lo + 1) else b.lo), a.hi⟩ : Pu)).hi], .bool ((!(t && (b.lo == m))))]) = true := by
  refine fun_calls (cx := ⟨tys_XbE, []⟩) (sp := sP_uabove) (t := sT_uabove) (by kernel_rfl) tysok_XbE (fun _ h => (by cases h)) (keys_of (by kernel_rfl)) Try.func62 ⟨fun n => ([a.lo, a.hi, b.lo, b.hi, 0, m] : List Int).getD n 0, fun n => ([false, false, false, false, t, false] : List Bool).getD n false⟩ sR_uabove (by kernel_rfl) ?_ rfl (by intro p hp; cases hp) ?_ ?_
  · intro n k hk
    have hlt : n < 6 := by
      rcases Nat.lt_or_ge n 6 with h | h
      · exact h
      · rw [List.getElem?_eq_none h] at hk; cases hk
    rcases (show n = 0 ∨ n = 1 ∨ n = 2 ∨ n = 3 ∨ n = 4 ∨ n = 5 by omega) with rfl | rfl | rfl | rfl | rfl | rfl
    · cases hk; exact ha.1
    · cases hk; exact ha.2
    · cases hk; exact hb.1
    · cases hk; exact hb.2
    · cases hk
    · cases hk; exact hm
  · intro ρ hag
    have g0 : ρ.i 0 = a.lo := (hag 0 (by decide)).1.symm
    have g1 : ρ.i 1 = a.hi := (hag 1 (by decide)).1.symm
    have g2 : ρ.i 2 = b.lo := (hag 2 (by decide)).1.symm
    have g3 : ρ.i 3 = b.hi := (hag 3 (by decide)).1.symm
    have g4 : ρ.b 4 = t := (hag 4 (by decide)).2.symm
    have g5 : ρ.i 5 = m := (hag 5 (by decide)).1.symm
    show some ([.agg #[.int .u64 (ρ.i 0), .int .u64 (ρ.i 1)], .agg #[.int .u64 (ρ.i 2), .int .u64 (ρ.i 3)], .bool (ρ.b 4), .int .u64 (ρ.i 5)] : List Value) = _
    rw [g0, g1, g2, g3, g4, g5]
  · intro ρ hag
    have g0 : ρ.i 0 = a.lo := (hag 0 (by decide)).1.symm
    have g1 : ρ.i 1 = a.hi := (hag 1 (by decide)).1.symm
    have g2 : ρ.i 2 = b.lo := (hag 2 (by decide)).1.symm
    have g3 : ρ.i 3 = b.hi := (hag 3 (by decide)).1.symm
    have g4 : ρ.b 4 = t := (hag 4 (by decide)).2.symm
    have g5 : ρ.i 5 = m := (hag 5 (by decide)).1.symm
    simp only [sT_uabove, Tr.asks, eqs, E.I, E.B, E.L, V.den, C.den, denL, den0, den0L, Option.map_some, Nat.add_zero, Nat.reduceAdd, and_true, Pu.eta, g0, g1, g2, g3, g4, g5]
    refine ⟨fun c0 => ?_, fun c0 => ?_⟩
    · skip
      refine ⟨fun c1 => ?_, fun c1 => ?_⟩
      · skip
        all_goals
          refine congrArg some ?_
          (simp_all [opI])
      · skip
        all_goals
          refine congrArg some ?_
          (simp_all [opI])
    · skip
      all_goals
        refine congrArg some ?_
        (simp_all [opI])
def sM_uabove (key : Nat) : Sm := ⟨62, key, [(true, [.int .u64, .int .u64]), (true, [.int .u64, .int .u64]), (false, [.bool]), (false, [.int .u64])], [(true, [.int .u64, .int .u64]), (false, [.bool])], true⟩
def sI_uabove : Nat → List Int → Int
  | 0, [x0, x1, x2, x3, x4, x5] => (fun (a : Pu) (b : Pu) (t : Bool) (m : Int) => ((⟨if t = true ∧ (b.lo == m) = true then a.lo else max a.lo (if t = true then IntKind.u64.wrap (b.lo + 1) else b.lo), a.hi⟩ : Pu)).lo) ⟨x0, x1⟩ ⟨x2, x3⟩ (x4 == 1) x5
  | 1, [x0, x1, x2, x3, x4, x5] => (fun (a : Pu) (b : Pu) (t : Bool) (m : Int) => ((⟨if t = true ∧ (b.lo == m) = true then a.lo else max a.lo (if t = true then IntKind.u64.wrap (b.lo + 1) else b.lo), a.hi⟩ : Pu)).hi) ⟨x0, x1⟩ ⟨x2, x3⟩ (x4 == 1) x5
  | _, _ => 0
def sB_uabove : Nat → List Int → Bool
  | 2, [x0, x1, x2, x3, x4, x5] => (fun (a : Pu) (b : Pu) (t : Bool) (m : Int) => (!(t && (b.lo == m)))) ⟨x0, x1⟩ ⟨x2, x3⟩ (x4 == 1) x5
  | _, _ => false
theorem sK_uabove {sp : Spec} {key : Nat} (hI : sp.I key = sI_uabove) (hB : sp.B key = sB_uabove) : SmOk Try.prog sp (sM_uabove key) := by
  refine SmOk.of (.inl ⟨run_enter Try.func62 (by kernel_rfl) (by kernel_rfl), fun xs vals h => ?_⟩) (.inl rfl)
  obtain ⟨_, _, _, p1, h1, rfl⟩ := shA h
  obtain ⟨_, _, _, d1_0, p1_0, rfl⟩ := cksC p1
  obtain ⟨x0, rfl, rfl, gx0⟩ := ckI d1_0
  obtain ⟨_, _, _, d1_1, p1_1, rfl⟩ := cksC p1_0
  obtain ⟨x1, rfl, rfl, gx1⟩ := ckI d1_1
  obtain ⟨rfl, rfl⟩ := cksN p1_1
  obtain ⟨_, _, _, p2, h2, rfl⟩ := shA h1
  obtain ⟨_, _, _, d2_0, p2_0, rfl⟩ := cksC p2
  obtain ⟨x2, rfl, rfl, gx2⟩ := ckI d2_0
  obtain ⟨_, _, _, d2_1, p2_1, rfl⟩ := cksC p2_0
  obtain ⟨x3, rfl, rfl, gx3⟩ := ckI d2_1
  obtain ⟨rfl, rfl⟩ := cksN p2_1
  obtain ⟨_, _, _, d3, h3, rfl⟩ := shO h2
  obtain ⟨x4, rfl, rfl⟩ := ckB d3
  obtain ⟨_, _, _, d4, h4, rfl⟩ := shO h3
  obtain ⟨x5, rfl, rfl, gx5⟩ := ckI d4
  obtain ⟨rfl, rfl⟩ := shN h4
  refine ⟨_, sX_uabove ⟨x0, x1⟩ ⟨gx0, gx1⟩ ⟨x2, x3⟩ ⟨gx2, gx3⟩ (x4 == 1) x5 gx5, fun ρ v0 he => ?_⟩
  have he' : ρ.i (v0 + 0) = sp.I key 0 [x0, x1, x2, x3, x4, x5] ∧ ρ.i (v0 + 1) = sp.I key 1 [x0, x1, x2, x3, x4, x5] ∧ ρ.b (v0 + 2) = sp.B key 2 [x0, x1, x2, x3, x4, x5] ∧ True := he
  simp only [hI, hB] at he'
  obtain ⟨e0, e1, e2, -⟩ := he'
  show some (.tuple #[.agg #[.int .u64 (ρ.i (v0 + 0)), .int .u64 (ρ.i (v0 + 1))], .bool (ρ.b (v0 + 2))] : Value) = _
  rw [e0, e1, e2]
  rfl
def sT_ubelow : Tr :=
(.br (.bvar 4)
 (.br (.eq (.var 3) (.var 5))
  (.leaf (.tup [(true, [.int .u64 (.var 0), .int .u64 (.var 1)]), (false, [.bool (.tt false)])]))
  (.leaf (.tup [(true, [.int .u64 (.var 0), .int .u64 (.mn (.var 1) (.bin .sub .u64 (.var 3) (.lit 1)))]), (false, [.bool (.tt true)])])))
 (.leaf (.tup [(true, [.int .u64 (.var 0), .int .u64 (.mn (.var 1) (.var 3))]), (false, [.bool (.tt true)])])))
def sP_ubelow : Spec := ⟨fun k => match k with | _ => fun _ _ => 0, fun k => match k with | _ => fun _ _ => false⟩
set_option maxRecDepth 100000 in
theorem sR_ubelow : funK ⟨tys_XbE, []⟩ 200 Try.f63 [.agg [.int .u64 (.var 0), .int .u64 (.var 1)], .agg [.int .u64 (.var 2), .int .u64 (.var 3)], .one (.bool (.bvar 4)), .one (.int .u64 (.var 5))] ⟨[], [], [some .u64, some .u64, some .u64, some .u64, none, some .u64]⟩ = sT_ubelow := by kernel_rfl
set_option maxRecDepth 100000 in
set_option maxHeartbeats 8000000 in
theorem sX_ubelow (a : Pu) (ha : Pu.ok a) (b : Pu) (hb : Pu.ok b) (t : Bool) (m : Int) (hm : inK .u64 m = true) : (∀ w, Calls Try.prog 63 #[.agg #[.int .u64 a.lo, .int .u64 a.hi], .agg #[.int .u64 b.lo, .int .u64 b.hi], .bool t, .int .u64 m] w fun e w' => e = .returned (.tuple #[.agg #[.int .u64 ((⟨a.lo, if t = true ∧ (b.hi == m) = true then a.hi else min a.hi (if t = true then IntKind.u64.wrap (b.hi - 1) else b.hi)⟩ : Pu)).lo, .int .u64 ((⟨a.lo, if t = true ∧ (b.hi == m) = true then a.hi else min a.hi (if t = true then IntKind.u64.wrap (b.hi - 1) else b.hi)⟩ : Pu)).hi], .bool ((!(t && (b.hi == m))))]) ∧ Ext w w') ∧ valIn (.tuple #[.agg #[.int .u64 ((⟨a.lo, if t = true ∧ (b.hi == m) = true then a.hi else min a.hi (if t = true then IntKind.u64.wrap (b.hi - 1) else b.hi)⟩ : Pu)).lo, .int .u64 ((⟨a.lo, if t = true ∧ (b.hi == m) = true then a.hi else min a.hi (if t = true then IntKind.u64.wrap (b.hi - 1) else b.hi)⟩ : Pu)).hi], .bool ((!(t && (b.hi == m))))]) = true := by
  refine fun_calls (cx := ⟨tys_XbE, []⟩) (sp := sP_ubelow) (t := sT_ubelow) (by kernel_rfl) tysok_XbE (fun _ h => (by cases h)) (keys_of (by kernel_rfl)) Try.func63 ⟨fun n => ([a.lo, a.hi, b.lo, b.hi, 0, m] : List Int).getD n 0, fun n => ([false, false, false, false, t, false] : List Bool).getD n false⟩ sR_ubelow (by kernel_rfl) ?_ rfl (by intro p hp; cases hp) ?_ ?_
  · intro n k hk
    have hlt : n < 6 := by
      rcases Nat.lt_or_ge n 6 with h | h
      · exact h
      · rw [List.getElem?_eq_none h] at hk; cases hk
    rcases (show n = 0 ∨ n = 1 ∨ n = 2 ∨ n = 3 ∨ n = 4 ∨ n = 5 by omega) with rfl | rfl | rfl | rfl | rfl | rfl
    · cases hk; exact ha.1
    · cases hk; exact ha.2
    · cases hk; exact hb.1
    · cases hk; exact hb.2
    · cases hk
    · cases hk; exact hm
  · intro ρ hag
    have g0 : ρ.i 0 = a.lo := (hag 0 (by decide)).1.symm
    have g1 : ρ.i 1 = a.hi := (hag 1 (by decide)).1.symm
    have g2 : ρ.i 2 = b.lo := (hag 2 (by decide)).1.symm
    have g3 : ρ.i 3 = b.hi := (hag 3 (by decide)).1.symm
    have g4 : ρ.b 4 = t := (hag 4 (by decide)).2.symm
    have g5 : ρ.i 5 = m := (hag 5 (by decide)).1.symm
    show some ([.agg #[.int .u64 (ρ.i 0), .int .u64 (ρ.i 1)], .agg #[.int .u64 (ρ.i 2), .int .u64 (ρ.i 3)], .bool (ρ.b 4), .int .u64 (ρ.i 5)] : List Value) = _
    rw [g0, g1, g2, g3, g4, g5]
  · intro ρ hag
    have g0 : ρ.i 0 = a.lo := (hag 0 (by decide)).1.symm
    have g1 : ρ.i 1 = a.hi := (hag 1 (by decide)).1.symm
    have g2 : ρ.i 2 = b.lo := (hag 2 (by decide)).1.symm
    have g3 : ρ.i 3 = b.hi := (hag 3 (by decide)).1.symm
    have g4 : ρ.b 4 = t := (hag 4 (by decide)).2.symm
    have g5 : ρ.i 5 = m := (hag 5 (by decide)).1.symm
    simp only [sT_ubelow, Tr.asks, eqs, E.I, E.B, E.L, V.den, C.den, denL, den0, den0L, Option.map_some, Nat.add_zero, Nat.reduceAdd, and_true, Pu.eta, g0, g1, g2, g3, g4, g5]
    refine ⟨fun c0 => ?_, fun c0 => ?_⟩
    · skip
      refine ⟨fun c1 => ?_, fun c1 => ?_⟩
      · skip
        all_goals
          refine congrArg some ?_
          (simp_all [opI])
      · skip
        all_goals
          refine congrArg some ?_
          (simp_all [opI])
    · skip
      all_goals
        refine congrArg some ?_
        (simp_all [opI])
def sM_ubelow (key : Nat) : Sm := ⟨63, key, [(true, [.int .u64, .int .u64]), (true, [.int .u64, .int .u64]), (false, [.bool]), (false, [.int .u64])], [(true, [.int .u64, .int .u64]), (false, [.bool])], true⟩
def sI_ubelow : Nat → List Int → Int
  | 0, [x0, x1, x2, x3, x4, x5] => (fun (a : Pu) (b : Pu) (t : Bool) (m : Int) => ((⟨a.lo, if t = true ∧ (b.hi == m) = true then a.hi else min a.hi (if t = true then IntKind.u64.wrap (b.hi - 1) else b.hi)⟩ : Pu)).lo) ⟨x0, x1⟩ ⟨x2, x3⟩ (x4 == 1) x5
  | 1, [x0, x1, x2, x3, x4, x5] => (fun (a : Pu) (b : Pu) (t : Bool) (m : Int) => ((⟨a.lo, if t = true ∧ (b.hi == m) = true then a.hi else min a.hi (if t = true then IntKind.u64.wrap (b.hi - 1) else b.hi)⟩ : Pu)).hi) ⟨x0, x1⟩ ⟨x2, x3⟩ (x4 == 1) x5
  | _, _ => 0
def sB_ubelow : Nat → List Int → Bool
  | 2, [x0, x1, x2, x3, x4, x5] => (fun (a : Pu) (b : Pu) (t : Bool) (m : Int) => (!(t && (b.hi == m)))) ⟨x0, x1⟩ ⟨x2, x3⟩ (x4 == 1) x5
  | _, _ => false
theorem sK_ubelow {sp : Spec} {key : Nat} (hI : sp.I key = sI_ubelow) (hB : sp.B key = sB_ubelow) : SmOk Try.prog sp (sM_ubelow key) := by
  refine SmOk.of (.inl ⟨run_enter Try.func63 (by kernel_rfl) (by kernel_rfl), fun xs vals h => ?_⟩) (.inl rfl)
  obtain ⟨_, _, _, p1, h1, rfl⟩ := shA h
  obtain ⟨_, _, _, d1_0, p1_0, rfl⟩ := cksC p1
  obtain ⟨x0, rfl, rfl, gx0⟩ := ckI d1_0
  obtain ⟨_, _, _, d1_1, p1_1, rfl⟩ := cksC p1_0
  obtain ⟨x1, rfl, rfl, gx1⟩ := ckI d1_1
  obtain ⟨rfl, rfl⟩ := cksN p1_1
  obtain ⟨_, _, _, p2, h2, rfl⟩ := shA h1
  obtain ⟨_, _, _, d2_0, p2_0, rfl⟩ := cksC p2
  obtain ⟨x2, rfl, rfl, gx2⟩ := ckI d2_0
  obtain ⟨_, _, _, d2_1, p2_1, rfl⟩ := cksC p2_0
  obtain ⟨x3, rfl, rfl, gx3⟩ := ckI d2_1
  obtain ⟨rfl, rfl⟩ := cksN p2_1
  obtain ⟨_, _, _, d3, h3, rfl⟩ := shO h2
  obtain ⟨x4, rfl, rfl⟩ := ckB d3
  obtain ⟨_, _, _, d4, h4, rfl⟩ := shO h3
  obtain ⟨x5, rfl, rfl, gx5⟩ := ckI d4
  obtain ⟨rfl, rfl⟩ := shN h4
  refine ⟨_, sX_ubelow ⟨x0, x1⟩ ⟨gx0, gx1⟩ ⟨x2, x3⟩ ⟨gx2, gx3⟩ (x4 == 1) x5 gx5, fun ρ v0 he => ?_⟩
  have he' : ρ.i (v0 + 0) = sp.I key 0 [x0, x1, x2, x3, x4, x5] ∧ ρ.i (v0 + 1) = sp.I key 1 [x0, x1, x2, x3, x4, x5] ∧ ρ.b (v0 + 2) = sp.B key 2 [x0, x1, x2, x3, x4, x5] ∧ True := he
  simp only [hI, hB] at he'
  obtain ⟨e0, e1, e2, -⟩ := he'
  show some (.tuple #[.agg #[.int .u64 (ρ.i (v0 + 0)), .int .u64 (ρ.i (v0 + 1))], .bool (ρ.b (v0 + 2))] : Value) = _
  rw [e0, e1, e2]
  rfl
def sT_iabove : Tr :=
(.br (.bvar 4)
 (.br (.eq (.var 2) (.var 5))
  (.leaf (.tup [(true, [.int .i64 (.var 0), .int .i64 (.var 1)]), (false, [.bool (.tt false)])]))
  (.leaf (.tup [(true, [.int .i64 (.mx (.var 0) (.bin .add .i64 (.var 2) (.lit 1))), .int .i64 (.var 1)]), (false, [.bool (.tt true)])])))
 (.leaf (.tup [(true, [.int .i64 (.mx (.var 0) (.var 2)), .int .i64 (.var 1)]), (false, [.bool (.tt true)])])))
def sP_iabove : Spec := ⟨fun k => match k with | _ => fun _ _ => 0, fun k => match k with | _ => fun _ _ => false⟩
set_option maxRecDepth 100000 in
theorem sR_iabove : funK ⟨tys_XbE, []⟩ 200 Try.f64 [.agg [.int .i64 (.var 0), .int .i64 (.var 1)], .agg [.int .i64 (.var 2), .int .i64 (.var 3)], .one (.bool (.bvar 4)), .one (.int .i64 (.var 5))] ⟨[], [], [some .i64, some .i64, some .i64, some .i64, none, some .i64]⟩ = sT_iabove := by kernel_rfl
set_option maxRecDepth 100000 in
set_option maxHeartbeats 8000000 in
theorem sX_iabove (a : Pi) (ha : Pi.ok a) (b : Pi) (hb : Pi.ok b) (t : Bool) (m : Int) (hm : inK .i64 m = true) : (∀ w, Calls Try.prog 64 #[.agg #[.int .i64 a.lo, .int .i64 a.hi], .agg #[.int .i64 b.lo, .int .i64 b.hi], .bool t, .int .i64 m] w fun e w' => e = .returned (.tuple #[.agg #[.int .i64 ((⟨if t = true ∧ (b.lo == m) = true then a.lo else max a.lo (if t = true then IntKind.i64.wrap (b.lo + 1) else b.lo), a.hi⟩ : Pi)).lo, .int .i64 ((⟨if t = true ∧ (b.lo == m) = true then a.lo else max a.lo (if t = true then IntKind.i64.wrap (b.lo + 1) else b.lo), a.hi⟩ : Pi)).hi], .bool ((!(t && (b.lo == m))))]) ∧ Ext w w') ∧ valIn (.tuple #[.agg #[.int .i64 ((⟨if t = true ∧ (b.lo == m) = true then a.lo else max a.lo (if t = true then IntKind.i64.wrap (b.lo + 1) else b.lo), a.hi⟩ : Pi)).lo, .int .i64 ((⟨if t = true ∧ (b.lo == m) = true then a.lo else max a.lo (if t = true then IntKind.i64.wrap (b.lo + 1) else b.lo), a.hi⟩ : Pi)).hi], .bool ((!(t && (b.lo == m))))]) = true := by
  refine fun_calls (cx := ⟨tys_XbE, []⟩) (sp := sP_iabove) (t := sT_iabove) (by kernel_rfl) tysok_XbE (fun _ h => (by cases h)) (keys_of (by kernel_rfl)) Try.func64 ⟨fun n => ([a.lo, a.hi, b.lo, b.hi, 0, m] : List Int).getD n 0, fun n => ([false, false, false, false, t, false] : List Bool).getD n false⟩ sR_iabove (by kernel_rfl) ?_ rfl (by intro p hp; cases hp) ?_ ?_
  · intro n k hk
    have hlt : n < 6 := by
      rcases Nat.lt_or_ge n 6 with h | h
      · exact h
      · rw [List.getElem?_eq_none h] at hk; cases hk
    rcases (show n = 0 ∨ n = 1 ∨ n = 2 ∨ n = 3 ∨ n = 4 ∨ n = 5 by omega) with rfl | rfl | rfl | rfl | rfl | rfl
    · cases hk; exact ha.1
    · cases hk; exact ha.2
    · cases hk; exact hb.1
    · cases hk; exact hb.2
    · cases hk
    · cases hk; exact hm
  · intro ρ hag
    have g0 : ρ.i 0 = a.lo := (hag 0 (by decide)).1.symm
    have g1 : ρ.i 1 = a.hi := (hag 1 (by decide)).1.symm
    have g2 : ρ.i 2 = b.lo := (hag 2 (by decide)).1.symm
    have g3 : ρ.i 3 = b.hi := (hag 3 (by decide)).1.symm
    have g4 : ρ.b 4 = t := (hag 4 (by decide)).2.symm
    have g5 : ρ.i 5 = m := (hag 5 (by decide)).1.symm
    show some ([.agg #[.int .i64 (ρ.i 0), .int .i64 (ρ.i 1)], .agg #[.int .i64 (ρ.i 2), .int .i64 (ρ.i 3)], .bool (ρ.b 4), .int .i64 (ρ.i 5)] : List Value) = _
    rw [g0, g1, g2, g3, g4, g5]
  · intro ρ hag
    have g0 : ρ.i 0 = a.lo := (hag 0 (by decide)).1.symm
    have g1 : ρ.i 1 = a.hi := (hag 1 (by decide)).1.symm
    have g2 : ρ.i 2 = b.lo := (hag 2 (by decide)).1.symm
    have g3 : ρ.i 3 = b.hi := (hag 3 (by decide)).1.symm
    have g4 : ρ.b 4 = t := (hag 4 (by decide)).2.symm
    have g5 : ρ.i 5 = m := (hag 5 (by decide)).1.symm
    simp only [sT_iabove, Tr.asks, eqs, E.I, E.B, E.L, V.den, C.den, denL, den0, den0L, Option.map_some, Nat.add_zero, Nat.reduceAdd, and_true, Pi.eta, g0, g1, g2, g3, g4, g5]
    refine ⟨fun c0 => ?_, fun c0 => ?_⟩
    · skip
      refine ⟨fun c1 => ?_, fun c1 => ?_⟩
      · skip
        all_goals
          refine congrArg some ?_
          (simp_all [opI])
      · skip
        all_goals
          refine congrArg some ?_
          (simp_all [opI])
    · skip
      all_goals
        refine congrArg some ?_
        (simp_all [opI])
def sM_iabove (key : Nat) : Sm := ⟨64, key, [(true, [.int .i64, .int .i64]), (true, [.int .i64, .int .i64]), (false, [.bool]), (false, [.int .i64])], [(true, [.int .i64, .int .i64]), (false, [.bool])], true⟩
def sI_iabove : Nat → List Int → Int
  | 0, [x0, x1, x2, x3, x4, x5] => (fun (a : Pi) (b : Pi) (t : Bool) (m : Int) => ((⟨if t = true ∧ (b.lo == m) = true then a.lo else max a.lo (if t = true then IntKind.i64.wrap (b.lo + 1) else b.lo), a.hi⟩ : Pi)).lo) ⟨x0, x1⟩ ⟨x2, x3⟩ (x4 == 1) x5
  | 1, [x0, x1, x2, x3, x4, x5] => (fun (a : Pi) (b : Pi) (t : Bool) (m : Int) => ((⟨if t = true ∧ (b.lo == m) = true then a.lo else max a.lo (if t = true then IntKind.i64.wrap (b.lo + 1) else b.lo), a.hi⟩ : Pi)).hi) ⟨x0, x1⟩ ⟨x2, x3⟩ (x4 == 1) x5
  | _, _ => 0
def sB_iabove : Nat → List Int → Bool
  | 2, [x0, x1, x2, x3, x4, x5] => (fun (a : Pi) (b : Pi) (t : Bool) (m : Int) => (!(t && (b.lo == m)))) ⟨x0, x1⟩ ⟨x2, x3⟩ (x4 == 1) x5
  | _, _ => false
theorem sK_iabove {sp : Spec} {key : Nat} (hI : sp.I key = sI_iabove) (hB : sp.B key = sB_iabove) : SmOk Try.prog sp (sM_iabove key) := by
  refine SmOk.of (.inl ⟨run_enter Try.func64 (by kernel_rfl) (by kernel_rfl), fun xs vals h => ?_⟩) (.inl rfl)
  obtain ⟨_, _, _, p1, h1, rfl⟩ := shA h
  obtain ⟨_, _, _, d1_0, p1_0, rfl⟩ := cksC p1
  obtain ⟨x0, rfl, rfl, gx0⟩ := ckI d1_0
  obtain ⟨_, _, _, d1_1, p1_1, rfl⟩ := cksC p1_0
  obtain ⟨x1, rfl, rfl, gx1⟩ := ckI d1_1
  obtain ⟨rfl, rfl⟩ := cksN p1_1
  obtain ⟨_, _, _, p2, h2, rfl⟩ := shA h1
  obtain ⟨_, _, _, d2_0, p2_0, rfl⟩ := cksC p2
  obtain ⟨x2, rfl, rfl, gx2⟩ := ckI d2_0
  obtain ⟨_, _, _, d2_1, p2_1, rfl⟩ := cksC p2_0
  obtain ⟨x3, rfl, rfl, gx3⟩ := ckI d2_1
  obtain ⟨rfl, rfl⟩ := cksN p2_1
  obtain ⟨_, _, _, d3, h3, rfl⟩ := shO h2
  obtain ⟨x4, rfl, rfl⟩ := ckB d3
  obtain ⟨_, _, _, d4, h4, rfl⟩ := shO h3
  obtain ⟨x5, rfl, rfl, gx5⟩ := ckI d4
  obtain ⟨rfl, rfl⟩ := shN h4
  refine ⟨_, sX_iabove ⟨x0, x1⟩ ⟨gx0, gx1⟩ ⟨x2, x3⟩ ⟨gx2, gx3⟩ (x4 == 1) x5 gx5, fun ρ v0 he => ?_⟩
  have he' : ρ.i (v0 + 0) = sp.I key 0 [x0, x1, x2, x3, x4, x5] ∧ ρ.i (v0 + 1) = sp.I key 1 [x0, x1, x2, x3, x4, x5] ∧ ρ.b (v0 + 2) = sp.B key 2 [x0, x1, x2, x3, x4, x5] ∧ True := he
  simp only [hI, hB] at he'
  obtain ⟨e0, e1, e2, -⟩ := he'
  show some (.tuple #[.agg #[.int .i64 (ρ.i (v0 + 0)), .int .i64 (ρ.i (v0 + 1))], .bool (ρ.b (v0 + 2))] : Value) = _
  rw [e0, e1, e2]
  rfl
def sT_ibelow : Tr :=
(.br (.bvar 4)
 (.br (.eq (.var 3) (.var 5))
  (.leaf (.tup [(true, [.int .i64 (.var 0), .int .i64 (.var 1)]), (false, [.bool (.tt false)])]))
  (.leaf (.tup [(true, [.int .i64 (.var 0), .int .i64 (.mn (.var 1) (.bin .sub .i64 (.var 3) (.lit 1)))]), (false, [.bool (.tt true)])])))
 (.leaf (.tup [(true, [.int .i64 (.var 0), .int .i64 (.mn (.var 1) (.var 3))]), (false, [.bool (.tt true)])])))
def sP_ibelow : Spec := ⟨fun k => match k with | _ => fun _ _ => 0, fun k => match k with | _ => fun _ _ => false⟩
set_option maxRecDepth 100000 in
theorem sR_ibelow : funK ⟨tys_XbE, []⟩ 200 Try.f65 [.agg [.int .i64 (.var 0), .int .i64 (.var 1)], .agg [.int .i64 (.var 2), .int .i64 (.var 3)], .one (.bool (.bvar 4)), .one (.int .i64 (.var 5))] ⟨[], [], [some .i64, some .i64, some .i64, some .i64, none, some .i64]⟩ = sT_ibelow := by kernel_rfl
set_option maxRecDepth 100000 in
set_option maxHeartbeats 8000000 in
theorem sX_ibelow (a : Pi) (ha : Pi.ok a) (b : Pi) (hb : Pi.ok b) (t : Bool) (m : Int) (hm : inK .i64 m = true) : (∀ w, Calls Try.prog 65 #[.agg #[.int .i64 a.lo, .int .i64 a.hi], .agg #[.int .i64 b.lo, .int .i64 b.hi], .bool t, .int .i64 m] w fun e w' => e = .returned (.tuple #[.agg #[.int .i64 ((⟨a.lo, if t = true ∧ (b.hi == m) = true then a.hi else min a.hi (if t = true then IntKind.i64.wrap (b.hi - 1) else b.hi)⟩ : Pi)).lo, .int .i64 ((⟨a.lo, if t = true ∧ (b.hi == m) = true then a.hi else min a.hi (if t = true then IntKind.i64.wrap (b.hi - 1) else b.hi)⟩ : Pi)).hi], .bool ((!(t && (b.hi == m))))]) ∧ Ext w w') ∧ valIn (.tuple #[.agg #[.int .i64 ((⟨a.lo, if t = true ∧ (b.hi == m) = true then a.hi else min a.hi (if t = true then IntKind.i64.wrap (b.hi - 1) else b.hi)⟩ : Pi)).lo, .int .i64 ((⟨a.lo, if t = true ∧ (b.hi == m) = true then a.hi else min a.hi (if t = true then IntKind.i64.wrap (b.hi - 1) else b.hi)⟩ : Pi)).hi], .bool ((!(t && (b.hi == m))))]) = true := by
  refine fun_calls (cx := ⟨tys_XbE, []⟩) (sp := sP_ibelow) (t := sT_ibelow) (by kernel_rfl) tysok_XbE (fun _ h => (by cases h)) (keys_of (by kernel_rfl)) Try.func65 ⟨fun n => ([a.lo, a.hi, b.lo, b.hi, 0, m] : List Int).getD n 0, fun n => ([false, false, false, false, t, false] : List Bool).getD n false⟩ sR_ibelow (by kernel_rfl) ?_ rfl (by intro p hp; cases hp) ?_ ?_
  · intro n k hk
    have hlt : n < 6 := by
      rcases Nat.lt_or_ge n 6 with h | h
      · exact h
      · rw [List.getElem?_eq_none h] at hk; cases hk
    rcases (show n = 0 ∨ n = 1 ∨ n = 2 ∨ n = 3 ∨ n = 4 ∨ n = 5 by omega) with rfl | rfl | rfl | rfl | rfl | rfl
    · cases hk; exact ha.1
    · cases hk; exact ha.2
    · cases hk; exact hb.1
    · cases hk; exact hb.2
    · cases hk
    · cases hk; exact hm
  · intro ρ hag
    have g0 : ρ.i 0 = a.lo := (hag 0 (by decide)).1.symm
    have g1 : ρ.i 1 = a.hi := (hag 1 (by decide)).1.symm
    have g2 : ρ.i 2 = b.lo := (hag 2 (by decide)).1.symm
    have g3 : ρ.i 3 = b.hi := (hag 3 (by decide)).1.symm
    have g4 : ρ.b 4 = t := (hag 4 (by decide)).2.symm
    have g5 : ρ.i 5 = m := (hag 5 (by decide)).1.symm
    show some ([.agg #[.int .i64 (ρ.i 0), .int .i64 (ρ.i 1)], .agg #[.int .i64 (ρ.i 2), .int .i64 (ρ.i 3)], .bool (ρ.b 4), .int .i64 (ρ.i 5)] : List Value) = _
    rw [g0, g1, g2, g3, g4, g5]
  · intro ρ hag
    have g0 : ρ.i 0 = a.lo := (hag 0 (by decide)).1.symm
    have g1 : ρ.i 1 = a.hi := (hag 1 (by decide)).1.symm
    have g2 : ρ.i 2 = b.lo := (hag 2 (by decide)).1.symm
    have g3 : ρ.i 3 = b.hi := (hag 3 (by decide)).1.symm
    have g4 : ρ.b 4 = t := (hag 4 (by decide)).2.symm
    have g5 : ρ.i 5 = m := (hag 5 (by decide)).1.symm
    simp only [sT_ibelow, Tr.asks, eqs, E.I, E.B, E.L, V.den, C.den, denL, den0, den0L, Option.map_some, Nat.add_zero, Nat.reduceAdd, and_true, Pi.eta, g0, g1, g2, g3, g4, g5]
    refine ⟨fun c0 => ?_, fun c0 => ?_⟩
    · skip
      refine ⟨fun c1 => ?_, fun c1 => ?_⟩
      · skip
        all_goals
          refine congrArg some ?_
          (simp_all [opI])
      · skip
        all_goals
          refine congrArg some ?_
          (simp_all [opI])
    · skip
      all_goals
        refine congrArg some ?_
        (simp_all [opI])
def sM_ibelow (key : Nat) : Sm := ⟨65, key, [(true, [.int .i64, .int .i64]), (true, [.int .i64, .int .i64]), (false, [.bool]), (false, [.int .i64])], [(true, [.int .i64, .int .i64]), (false, [.bool])], true⟩
def sI_ibelow : Nat → List Int → Int
  | 0, [x0, x1, x2, x3, x4, x5] => (fun (a : Pi) (b : Pi) (t : Bool) (m : Int) => ((⟨a.lo, if t = true ∧ (b.hi == m) = true then a.hi else min a.hi (if t = true then IntKind.i64.wrap (b.hi - 1) else b.hi)⟩ : Pi)).lo) ⟨x0, x1⟩ ⟨x2, x3⟩ (x4 == 1) x5
  | 1, [x0, x1, x2, x3, x4, x5] => (fun (a : Pi) (b : Pi) (t : Bool) (m : Int) => ((⟨a.lo, if t = true ∧ (b.hi == m) = true then a.hi else min a.hi (if t = true then IntKind.i64.wrap (b.hi - 1) else b.hi)⟩ : Pi)).hi) ⟨x0, x1⟩ ⟨x2, x3⟩ (x4 == 1) x5
  | _, _ => 0
def sB_ibelow : Nat → List Int → Bool
  | 2, [x0, x1, x2, x3, x4, x5] => (fun (a : Pi) (b : Pi) (t : Bool) (m : Int) => (!(t && (b.hi == m)))) ⟨x0, x1⟩ ⟨x2, x3⟩ (x4 == 1) x5
  | _, _ => false
theorem sK_ibelow {sp : Spec} {key : Nat} (hI : sp.I key = sI_ibelow) (hB : sp.B key = sB_ibelow) : SmOk Try.prog sp (sM_ibelow key) := by
  refine SmOk.of (.inl ⟨run_enter Try.func65 (by kernel_rfl) (by kernel_rfl), fun xs vals h => ?_⟩) (.inl rfl)
  obtain ⟨_, _, _, p1, h1, rfl⟩ := shA h
  obtain ⟨_, _, _, d1_0, p1_0, rfl⟩ := cksC p1
  obtain ⟨x0, rfl, rfl, gx0⟩ := ckI d1_0
  obtain ⟨_, _, _, d1_1, p1_1, rfl⟩ := cksC p1_0
  obtain ⟨x1, rfl, rfl, gx1⟩ := ckI d1_1
  obtain ⟨rfl, rfl⟩ := cksN p1_1
  obtain ⟨_, _, _, p2, h2, rfl⟩ := shA h1
  obtain ⟨_, _, _, d2_0, p2_0, rfl⟩ := cksC p2
  obtain ⟨x2, rfl, rfl, gx2⟩ := ckI d2_0
  obtain ⟨_, _, _, d2_1, p2_1, rfl⟩ := cksC p2_0
  obtain ⟨x3, rfl, rfl, gx3⟩ := ckI d2_1
  obtain ⟨rfl, rfl⟩ := cksN p2_1
  obtain ⟨_, _, _, d3, h3, rfl⟩ := shO h2
  obtain ⟨x4, rfl, rfl⟩ := ckB d3
  obtain ⟨_, _, _, d4, h4, rfl⟩ := shO h3
  obtain ⟨x5, rfl, rfl, gx5⟩ := ckI d4
  obtain ⟨rfl, rfl⟩ := shN h4
  refine ⟨_, sX_ibelow ⟨x0, x1⟩ ⟨gx0, gx1⟩ ⟨x2, x3⟩ ⟨gx2, gx3⟩ (x4 == 1) x5 gx5, fun ρ v0 he => ?_⟩
  have he' : ρ.i (v0 + 0) = sp.I key 0 [x0, x1, x2, x3, x4, x5] ∧ ρ.i (v0 + 1) = sp.I key 1 [x0, x1, x2, x3, x4, x5] ∧ ρ.b (v0 + 2) = sp.B key 2 [x0, x1, x2, x3, x4, x5] ∧ True := he
  simp only [hI, hB] at he'
  obtain ⟨e0, e1, e2, -⟩ := he'
  show some (.tuple #[.agg #[.int .i64 (ρ.i (v0 + 0)), .int .i64 (ρ.i (v0 + 1))], .bool (ρ.b (v0 + 2))] : Value) = _
  rw [e0, e1, e2]
  rfl
def sT_given : Tr :=
(.call 0 [.bool] (.cons (.var 1) (.cons (.var 2) (.cons (.var 3) (.cons (.var 4) .nil)))) 9
 (.br (.bvar 9)
 (.call 0 [.bool] (.cons (.var 5) (.cons (.var 6) (.cons (.var 7) (.cons (.var 8) .nil)))) 10
  (.br (.bvar 10)
  (.br (.lt (.var 0) (.lit 0))
   (.call 1 [.int .u64, .int .u64, .int .i64, .int .i64] .nil 11
    (.leaf (.tup [(true, [.int .u64 (.var 11), .int .u64 (.var 12), .int .i64 (.var 13), .int .i64 (.var 14)]), (false, [.bool (.tt false)])])))
   (.br (.lt (.lit 10) (.var 0))
    (.call 1 [.int .u64, .int .u64, .int .i64, .int .i64] .nil 11
     (.leaf (.tup [(true, [.int .u64 (.var 11), .int .u64 (.var 12), .int .i64 (.var 13), .int .i64 (.var 14)]), (false, [.bool (.tt false)])])))
    (.call 4 [.int .u64, .int .u64] (.cons (.var 1) (.cons (.var 2) (.cons (.var 3) (.cons (.var 4) .nil)))) 11
     (.call 5 [.int .i64, .int .i64] (.cons (.var 1) (.cons (.var 2) (.cons (.var 3) (.cons (.var 4) .nil)))) 13
     (.br (.eq (.var 0) (.lit 0))
     (.call 2 [.int .u64, .int .u64, .int .i64, .int .i64, .bool] (.cons (.var 1) (.cons (.var 2) (.cons (.var 3) (.cons (.var 4) (.cons (.var 5) (.cons (.var 6) (.cons (.var 7) (.cons (.var 8) .nil)))))))) 15
      (.leaf (.tup [(true, [.int .u64 (.var 15), .int .u64 (.var 16), .int .i64 (.var 17), .int .i64 (.var 18)]), (false, [.bool (.bvar 19)])])))
     (.br (.eq (.var 0) (.lit 1))
      (.call 3 [.int .u64, .bool] (.cons (.var 5) (.cons (.var 6) (.cons (.var 7) (.cons (.var 8) .nil)))) 15
       (.br (.bvar 16)
       (.call 6 [.int .u64, .int .u64, .bool] (.cons (.var 11) (.cons (.var 12) (.cons (.var 15) .nil))) 17
        (.call 7 [.int .i64, .int .i64, .bool] (.cons (.var 13) (.cons (.var 14) (.cons (.conv .i64 (.var 15)) .nil))) 20
        (.br (.bvar 19)
        (.br (.bvar 22)
         (.call 12 [.int .u64, .int .u64, .int .i64, .int .i64] (.cons (.var 17) (.cons (.var 18) (.cons (.var 20) (.cons (.var 21) .nil)))) 23
          (.call 13 [.int .u64, .int .u64, .int .i64, .int .i64, .bool] (.cons (.var 23) (.cons (.var 24) (.cons (.var 25) (.cons (.var 26) .nil)))) 27
          (.leaf (.tup [(true, [.int .u64 (.var 27), .int .u64 (.var 28), .int .i64 (.var 29), .int .i64 (.var 30)]), (false, [.bool (.bvar 31)])]))))
         (.call 1 [.int .u64, .int .u64, .int .i64, .int .i64] .nil 23
          (.leaf (.tup [(true, [.int .u64 (.var 23), .int .u64 (.var 24), .int .i64 (.var 25), .int .i64 (.var 26)]), (false, [.bool (.tt false)])]))))
        (.call 1 [.int .u64, .int .u64, .int .i64, .int .i64] .nil 23
         (.leaf (.tup [(true, [.int .u64 (.var 23), .int .u64 (.var 24), .int .i64 (.var 25), .int .i64 (.var 26)]), (false, [.bool (.tt false)])]))))))
       (.call 12 [.int .u64, .int .u64, .int .i64, .int .i64] (.cons (.var 11) (.cons (.var 12) (.cons (.var 13) (.cons (.var 14) .nil)))) 17
        (.call 13 [.int .u64, .int .u64, .int .i64, .int .i64, .bool] (.cons (.var 17) (.cons (.var 18) (.cons (.var 19) (.cons (.var 20) .nil)))) 21
        (.leaf (.tup [(true, [.int .u64 (.var 21), .int .u64 (.var 22), .int .i64 (.var 23), .int .i64 (.var 24)]), (false, [.bool (.bvar 25)])]))))))
      (.br (.eq (.var 0) (.lit 2))
       (.call 4 [.int .u64, .int .u64] (.cons (.var 5) (.cons (.var 6) (.cons (.var 7) (.cons (.var 8) .nil)))) 15
        (.call 8 [.int .u64, .int .u64, .bool] (.cons (.var 11) (.cons (.var 12) (.cons (.var 15) (.cons (.var 16) (.consb (.eq (.var 0) (.lit 2)) (.cons (.lit 18446744073709551615) .nil)))))) 17
        (.br (.bvar 19)
        (.call 12 [.int .u64, .int .u64, .int .i64, .int .i64] (.cons (.var 17) (.cons (.var 18) (.cons (.var 13) (.cons (.var 14) .nil)))) 20
         (.call 13 [.int .u64, .int .u64, .int .i64, .int .i64, .bool] (.cons (.var 20) (.cons (.var 21) (.cons (.var 22) (.cons (.var 23) .nil)))) 24
         (.leaf (.tup [(true, [.int .u64 (.var 24), .int .u64 (.var 25), .int .i64 (.var 26), .int .i64 (.var 27)]), (false, [.bool (.bvar 28)])]))))
        (.call 1 [.int .u64, .int .u64, .int .i64, .int .i64] .nil 20
         (.leaf (.tup [(true, [.int .u64 (.var 20), .int .u64 (.var 21), .int .i64 (.var 22), .int .i64 (.var 23)]), (false, [.bool (.tt false)])]))))))
       (.br (.eq (.var 0) (.lit 3))
        (.call 4 [.int .u64, .int .u64] (.cons (.var 5) (.cons (.var 6) (.cons (.var 7) (.cons (.var 8) .nil)))) 15
         (.call 8 [.int .u64, .int .u64, .bool] (.cons (.var 11) (.cons (.var 12) (.cons (.var 15) (.cons (.var 16) (.consb (.eq (.var 0) (.lit 2)) (.cons (.lit 18446744073709551615) .nil)))))) 17
         (.br (.bvar 19)
         (.call 12 [.int .u64, .int .u64, .int .i64, .int .i64] (.cons (.var 17) (.cons (.var 18) (.cons (.var 13) (.cons (.var 14) .nil)))) 20
          (.call 13 [.int .u64, .int .u64, .int .i64, .int .i64, .bool] (.cons (.var 20) (.cons (.var 21) (.cons (.var 22) (.cons (.var 23) .nil)))) 24
          (.leaf (.tup [(true, [.int .u64 (.var 24), .int .u64 (.var 25), .int .i64 (.var 26), .int .i64 (.var 27)]), (false, [.bool (.bvar 28)])]))))
         (.call 1 [.int .u64, .int .u64, .int .i64, .int .i64] .nil 20
          (.leaf (.tup [(true, [.int .u64 (.var 20), .int .u64 (.var 21), .int .i64 (.var 22), .int .i64 (.var 23)]), (false, [.bool (.tt false)])]))))))
        (.br (.eq (.var 0) (.lit 4))
         (.call 4 [.int .u64, .int .u64] (.cons (.var 5) (.cons (.var 6) (.cons (.var 7) (.cons (.var 8) .nil)))) 15
          (.call 9 [.int .u64, .int .u64, .bool] (.cons (.var 11) (.cons (.var 12) (.cons (.var 15) (.cons (.var 16) (.consb (.eq (.var 0) (.lit 4)) (.cons (.lit 0) .nil)))))) 17
          (.br (.bvar 19)
          (.call 12 [.int .u64, .int .u64, .int .i64, .int .i64] (.cons (.var 17) (.cons (.var 18) (.cons (.var 13) (.cons (.var 14) .nil)))) 20
           (.call 13 [.int .u64, .int .u64, .int .i64, .int .i64, .bool] (.cons (.var 20) (.cons (.var 21) (.cons (.var 22) (.cons (.var 23) .nil)))) 24
           (.leaf (.tup [(true, [.int .u64 (.var 24), .int .u64 (.var 25), .int .i64 (.var 26), .int .i64 (.var 27)]), (false, [.bool (.bvar 28)])]))))
          (.call 1 [.int .u64, .int .u64, .int .i64, .int .i64] .nil 20
           (.leaf (.tup [(true, [.int .u64 (.var 20), .int .u64 (.var 21), .int .i64 (.var 22), .int .i64 (.var 23)]), (false, [.bool (.tt false)])]))))))
         (.br (.eq (.var 0) (.lit 5))
          (.call 4 [.int .u64, .int .u64] (.cons (.var 5) (.cons (.var 6) (.cons (.var 7) (.cons (.var 8) .nil)))) 15
           (.call 9 [.int .u64, .int .u64, .bool] (.cons (.var 11) (.cons (.var 12) (.cons (.var 15) (.cons (.var 16) (.consb (.eq (.var 0) (.lit 4)) (.cons (.lit 0) .nil)))))) 17
           (.br (.bvar 19)
           (.call 12 [.int .u64, .int .u64, .int .i64, .int .i64] (.cons (.var 17) (.cons (.var 18) (.cons (.var 13) (.cons (.var 14) .nil)))) 20
            (.call 13 [.int .u64, .int .u64, .int .i64, .int .i64, .bool] (.cons (.var 20) (.cons (.var 21) (.cons (.var 22) (.cons (.var 23) .nil)))) 24
            (.leaf (.tup [(true, [.int .u64 (.var 24), .int .u64 (.var 25), .int .i64 (.var 26), .int .i64 (.var 27)]), (false, [.bool (.bvar 28)])]))))
           (.call 1 [.int .u64, .int .u64, .int .i64, .int .i64] .nil 20
            (.leaf (.tup [(true, [.int .u64 (.var 20), .int .u64 (.var 21), .int .i64 (.var 22), .int .i64 (.var 23)]), (false, [.bool (.tt false)])]))))))
          (.br (.eq (.var 0) (.lit 6))
           (.call 5 [.int .i64, .int .i64] (.cons (.var 5) (.cons (.var 6) (.cons (.var 7) (.cons (.var 8) .nil)))) 15
            (.call 10 [.int .i64, .int .i64, .bool] (.cons (.var 13) (.cons (.var 14) (.cons (.var 15) (.cons (.var 16) (.consb (.eq (.var 0) (.lit 6)) (.cons (.lit 9223372036854775807) .nil)))))) 17
            (.br (.bvar 19)
            (.call 12 [.int .u64, .int .u64, .int .i64, .int .i64] (.cons (.var 11) (.cons (.var 12) (.cons (.var 17) (.cons (.var 18) .nil)))) 20
             (.call 13 [.int .u64, .int .u64, .int .i64, .int .i64, .bool] (.cons (.var 20) (.cons (.var 21) (.cons (.var 22) (.cons (.var 23) .nil)))) 24
             (.leaf (.tup [(true, [.int .u64 (.var 24), .int .u64 (.var 25), .int .i64 (.var 26), .int .i64 (.var 27)]), (false, [.bool (.bvar 28)])]))))
            (.call 1 [.int .u64, .int .u64, .int .i64, .int .i64] .nil 20
             (.leaf (.tup [(true, [.int .u64 (.var 20), .int .u64 (.var 21), .int .i64 (.var 22), .int .i64 (.var 23)]), (false, [.bool (.tt false)])]))))))
           (.br (.eq (.var 0) (.lit 7))
            (.call 5 [.int .i64, .int .i64] (.cons (.var 5) (.cons (.var 6) (.cons (.var 7) (.cons (.var 8) .nil)))) 15
             (.call 10 [.int .i64, .int .i64, .bool] (.cons (.var 13) (.cons (.var 14) (.cons (.var 15) (.cons (.var 16) (.consb (.eq (.var 0) (.lit 6)) (.cons (.lit 9223372036854775807) .nil)))))) 17
             (.br (.bvar 19)
             (.call 12 [.int .u64, .int .u64, .int .i64, .int .i64] (.cons (.var 11) (.cons (.var 12) (.cons (.var 17) (.cons (.var 18) .nil)))) 20
              (.call 13 [.int .u64, .int .u64, .int .i64, .int .i64, .bool] (.cons (.var 20) (.cons (.var 21) (.cons (.var 22) (.cons (.var 23) .nil)))) 24
              (.leaf (.tup [(true, [.int .u64 (.var 24), .int .u64 (.var 25), .int .i64 (.var 26), .int .i64 (.var 27)]), (false, [.bool (.bvar 28)])]))))
             (.call 1 [.int .u64, .int .u64, .int .i64, .int .i64] .nil 20
              (.leaf (.tup [(true, [.int .u64 (.var 20), .int .u64 (.var 21), .int .i64 (.var 22), .int .i64 (.var 23)]), (false, [.bool (.tt false)])]))))))
            (.br (.eq (.var 0) (.lit 8))
             (.call 5 [.int .i64, .int .i64] (.cons (.var 5) (.cons (.var 6) (.cons (.var 7) (.cons (.var 8) .nil)))) 15
              (.call 11 [.int .i64, .int .i64, .bool] (.cons (.var 13) (.cons (.var 14) (.cons (.var 15) (.cons (.var 16) (.consb (.eq (.var 0) (.lit 8)) (.cons (.lit (-9223372036854775808)) .nil)))))) 17
              (.br (.bvar 19)
              (.call 12 [.int .u64, .int .u64, .int .i64, .int .i64] (.cons (.var 11) (.cons (.var 12) (.cons (.var 17) (.cons (.var 18) .nil)))) 20
               (.call 13 [.int .u64, .int .u64, .int .i64, .int .i64, .bool] (.cons (.var 20) (.cons (.var 21) (.cons (.var 22) (.cons (.var 23) .nil)))) 24
               (.leaf (.tup [(true, [.int .u64 (.var 24), .int .u64 (.var 25), .int .i64 (.var 26), .int .i64 (.var 27)]), (false, [.bool (.bvar 28)])]))))
              (.call 1 [.int .u64, .int .u64, .int .i64, .int .i64] .nil 20
               (.leaf (.tup [(true, [.int .u64 (.var 20), .int .u64 (.var 21), .int .i64 (.var 22), .int .i64 (.var 23)]), (false, [.bool (.tt false)])]))))))
             (.br (.eq (.var 0) (.lit 9))
              (.call 5 [.int .i64, .int .i64] (.cons (.var 5) (.cons (.var 6) (.cons (.var 7) (.cons (.var 8) .nil)))) 15
               (.call 11 [.int .i64, .int .i64, .bool] (.cons (.var 13) (.cons (.var 14) (.cons (.var 15) (.cons (.var 16) (.consb (.eq (.var 0) (.lit 8)) (.cons (.lit (-9223372036854775808)) .nil)))))) 17
               (.br (.bvar 19)
               (.call 12 [.int .u64, .int .u64, .int .i64, .int .i64] (.cons (.var 11) (.cons (.var 12) (.cons (.var 17) (.cons (.var 18) .nil)))) 20
                (.call 13 [.int .u64, .int .u64, .int .i64, .int .i64, .bool] (.cons (.var 20) (.cons (.var 21) (.cons (.var 22) (.cons (.var 23) .nil)))) 24
                (.leaf (.tup [(true, [.int .u64 (.var 24), .int .u64 (.var 25), .int .i64 (.var 26), .int .i64 (.var 27)]), (false, [.bool (.bvar 28)])]))))
               (.call 1 [.int .u64, .int .u64, .int .i64, .int .i64] .nil 20
                (.leaf (.tup [(true, [.int .u64 (.var 20), .int .u64 (.var 21), .int .i64 (.var 22), .int .i64 (.var 23)]), (false, [.bool (.tt false)])]))))))
              (.call 12 [.int .u64, .int .u64, .int .i64, .int .i64] (.cons (.var 11) (.cons (.var 12) (.cons (.var 13) (.cons (.var 14) .nil)))) 15
               (.call 13 [.int .u64, .int .u64, .int .i64, .int .i64, .bool] (.cons (.var 15) (.cons (.var 16) (.cons (.var 17) (.cons (.var 18) .nil)))) 19
               (.leaf (.tup [(true, [.int .u64 (.var 19), .int .u64 (.var 20), .int .i64 (.var 21), .int .i64 (.var 22)]), (false, [.bool (.bvar 23)])]))))))))))))))))))
  (.call 1 [.int .u64, .int .u64, .int .i64, .int .i64] .nil 11
   (.leaf (.tup [(true, [.int .u64 (.var 11), .int .u64 (.var 12), .int .i64 (.var 13), .int .i64 (.var 14)]), (false, [.bool (.tt false)])])))))
 (.call 1 [.int .u64, .int .u64, .int .i64, .int .i64] .nil 10
  (.leaf (.tup [(true, [.int .u64 (.var 10), .int .u64 (.var 11), .int .i64 (.var 12), .int .i64 (.var 13)]), (false, [.bool (.tt false)])])))))
def sP_given : Spec := ⟨fun k => match k with | 0 => sI_may | 1 => sI_all | 2 => sI_meet | 3 => sI_single | 4 => sI_uns | 5 => sI_sig | 6 => sI_uwo | 7 => sI_iwo | 8 => sI_uabove | 9 => sI_ubelow | 10 => sI_iabove | 11 => sI_ibelow | 12 => sI_of | 13 => sI_nar | _ => fun _ _ => 0, fun k => match k with | 0 => sB_may | 1 => sB_all | 2 => sB_meet | 3 => sB_single | 4 => sB_uns | 5 => sB_sig | 6 => sB_uwo | 7 => sB_iwo | 8 => sB_uabove | 9 => sB_ubelow | 10 => sB_iabove | 11 => sB_ibelow | 12 => sB_of | 13 => sB_nar | _ => fun _ _ => false⟩
set_option maxRecDepth 100000 in
theorem sR_given : funK ⟨tys_XbE, [sM_may 0, sM_all 1, sM_meet 2, sM_single 3, sM_uns 4, sM_sig 5, sM_uwo 6, sM_iwo 7, sM_uabove 8, sM_ubelow 9, sM_iabove 10, sM_ibelow 11, sM_of 12, sM_nar 13]⟩ 200 Try.f19 [.one (.int .i8 (.var 0)), .agg [.int .u64 (.var 1), .int .u64 (.var 2), .int .i64 (.var 3), .int .i64 (.var 4)], .agg [.int .u64 (.var 5), .int .u64 (.var 6), .int .i64 (.var 7), .int .i64 (.var 8)]] ⟨[], [], [some .i8, some .u64, some .u64, some .i64, some .i64, some .u64, some .u64, some .i64, some .i64]⟩ = sT_given := by kernel_rfl
set_option maxRecDepth 100000 in
set_option maxHeartbeats 8000000 in
theorem sX_given (cc : Int) (hcc : inK .i8 cc = true) (a : Rg) (ha : Rg.ok a) (b : Rg) (hb : Rg.ok b) : (∀ w, Calls Try.prog 19 #[.int .i8 cc, .agg #[.int .u64 a.ul, .int .u64 a.uh, .int .i64 a.sl, .int .i64 a.sh], .agg #[.int .u64 b.ul, .int .u64 b.uh, .int .i64 b.sl, .int .i64 b.sh]] w fun e w' => e = .returned (.tuple #[.agg #[.int .u64 (bgiv cc a b).ul, .int .u64 (bgiv cc a b).uh, .int .i64 (bgiv cc a b).sl, .int .i64 (bgiv cc a b).sh], .bool (bgok cc a b)]) ∧ Ext w w') ∧ valIn (.tuple #[.agg #[.int .u64 (bgiv cc a b).ul, .int .u64 (bgiv cc a b).uh, .int .i64 (bgiv cc a b).sl, .int .i64 (bgiv cc a b).sh], .bool (bgok cc a b)]) = true := by
  refine fun_calls (cx := ⟨tys_XbE, [sM_may 0, sM_all 1, sM_meet 2, sM_single 3, sM_uns 4, sM_sig 5, sM_uwo 6, sM_iwo 7, sM_uabove 8, sM_ubelow 9, sM_iabove 10, sM_ibelow 11, sM_of 12, sM_nar 13]⟩) (sp := sP_given) (t := sT_given) (by kernel_rfl) tysok_XbE (List.forall_mem_cons.2 ⟨sK_may rfl rfl, List.forall_mem_cons.2 ⟨sK_all rfl rfl, List.forall_mem_cons.2 ⟨sK_meet rfl rfl, List.forall_mem_cons.2 ⟨sK_single rfl rfl, List.forall_mem_cons.2 ⟨sK_uns rfl rfl, List.forall_mem_cons.2 ⟨sK_sig rfl rfl, List.forall_mem_cons.2 ⟨sK_uwo rfl rfl, List.forall_mem_cons.2 ⟨sK_iwo rfl rfl, List.forall_mem_cons.2 ⟨sK_uabove rfl rfl, List.forall_mem_cons.2 ⟨sK_ubelow rfl rfl, List.forall_mem_cons.2 ⟨sK_iabove rfl rfl, List.forall_mem_cons.2 ⟨sK_ibelow rfl rfl, List.forall_mem_cons.2 ⟨sK_of rfl rfl, List.forall_mem_cons.2 ⟨sK_nar rfl rfl, fun _ h => (by cases h)⟩⟩⟩⟩⟩⟩⟩⟩⟩⟩⟩⟩⟩⟩) (keys_of (by kernel_rfl)) Try.func19 ⟨fun n => ([cc, a.ul, a.uh, a.sl, a.sh, b.ul, b.uh, b.sl, b.sh] : List Int).getD n 0, fun n => ([false, false, false, false, false, false, false, false, false] : List Bool).getD n false⟩ sR_given (by kernel_rfl) ?_ rfl (by intro p hp; cases hp) ?_ ?_
  · intro n k hk
    have hlt : n < 9 := by
      rcases Nat.lt_or_ge n 9 with h | h
      · exact h
      · rw [List.getElem?_eq_none h] at hk; cases hk
    rcases (show n = 0 ∨ n = 1 ∨ n = 2 ∨ n = 3 ∨ n = 4 ∨ n = 5 ∨ n = 6 ∨ n = 7 ∨ n = 8 by omega) with rfl | rfl | rfl | rfl | rfl | rfl | rfl | rfl | rfl
    · cases hk; exact hcc
    · cases hk; exact ha.1
    · cases hk; exact ha.2.1
    · cases hk; exact ha.2.2.1
    · cases hk; exact ha.2.2.2
    · cases hk; exact hb.1
    · cases hk; exact hb.2.1
    · cases hk; exact hb.2.2.1
    · cases hk; exact hb.2.2.2
  · intro ρ hag
    have g0 : ρ.i 0 = cc := (hag 0 (by decide)).1.symm
    have g1 : ρ.i 1 = a.ul := (hag 1 (by decide)).1.symm
    have g2 : ρ.i 2 = a.uh := (hag 2 (by decide)).1.symm
    have g3 : ρ.i 3 = a.sl := (hag 3 (by decide)).1.symm
    have g4 : ρ.i 4 = a.sh := (hag 4 (by decide)).1.symm
    have g5 : ρ.i 5 = b.ul := (hag 5 (by decide)).1.symm
    have g6 : ρ.i 6 = b.uh := (hag 6 (by decide)).1.symm
    have g7 : ρ.i 7 = b.sl := (hag 7 (by decide)).1.symm
    have g8 : ρ.i 8 = b.sh := (hag 8 (by decide)).1.symm
    show some ([.int .i8 (ρ.i 0), .agg #[.int .u64 (ρ.i 1), .int .u64 (ρ.i 2), .int .i64 (ρ.i 3), .int .i64 (ρ.i 4)], .agg #[.int .u64 (ρ.i 5), .int .u64 (ρ.i 6), .int .i64 (ρ.i 7), .int .i64 (ρ.i 8)]] : List Value) = _
    rw [g0, g1, g2, g3, g4, g5, g6, g7, g8]
  · intro ρ hag
    have g0 : ρ.i 0 = cc := (hag 0 (by decide)).1.symm
    have g1 : ρ.i 1 = a.ul := (hag 1 (by decide)).1.symm
    have g2 : ρ.i 2 = a.uh := (hag 2 (by decide)).1.symm
    have g3 : ρ.i 3 = a.sl := (hag 3 (by decide)).1.symm
    have g4 : ρ.i 4 = a.sh := (hag 4 (by decide)).1.symm
    have g5 : ρ.i 5 = b.ul := (hag 5 (by decide)).1.symm
    have g6 : ρ.i 6 = b.uh := (hag 6 (by decide)).1.symm
    have g7 : ρ.i 7 = b.sl := (hag 7 (by decide)).1.symm
    have g8 : ρ.i 8 = b.sh := (hag 8 (by decide)).1.symm
    simp only [sT_given, Tr.asks, eqs, E.I, E.B, E.L, V.den, C.den, denL, den0, den0L, Option.map_some, Nat.add_zero, Nat.reduceAdd, and_true, Rg.eta, g0, g1, g2, g3, g4, g5, g6, g7, g8]
    simp only [sP_given, b01, Pi.eta, Pu.eta, Rg.eta, sI_may, sB_may, sI_all, sB_all, sI_meet, sB_meet, sI_single, sB_single, sI_uns, sB_uns, sI_sig, sB_sig, sI_uwo, sB_uwo, sI_iwo, sB_iwo, sI_uabove, sB_uabove, sI_ubelow, sB_ubelow, sI_iabove, sB_iabove, sI_ibelow, sB_ibelow, sI_of, sB_of, sI_nar, sB_nar]
    intro e9
    (try simp only [e9, Pi.eta, Pu.eta, Rg.eta])
    (try clear e9)
    refine ⟨fun c0 => ?_, fun c0 => ?_⟩
    · skip
      intro e10
      (try simp only [e10, Pi.eta, Pu.eta, Rg.eta])
      (try clear e10)
      refine ⟨fun c1 => ?_, fun c1 => ?_⟩
      · skip
        refine ⟨fun c2 => ?_, fun c2 => ?_⟩
        · skip
          rintro ⟨e11, e12, e13, e14⟩
          (try simp only [e11, e12, e13, e14, Pi.eta, Pu.eta, Rg.eta])
          (try clear e11 e12 e13 e14)
          all_goals
            refine congrArg some ?_
            exact tup_Rg (gv_not (.inl (by unfold bgood; rw [c0, c1, decide_eq_false (show ¬ 0 ≤ cc from Int.not_le.2 (of_decide_eq_true c2))]; rfl))).1 (gv_not (.inl (by unfold bgood; rw [c0, c1, decide_eq_false (show ¬ 0 ≤ cc from Int.not_le.2 (of_decide_eq_true c2))]; rfl))).2
        · skip
          refine ⟨fun c3 => ?_, fun c3 => ?_⟩
          · skip
            rintro ⟨e11, e12, e13, e14⟩
            (try simp only [e11, e12, e13, e14, Pi.eta, Pu.eta, Rg.eta])
            (try clear e11 e12 e13 e14)
            all_goals
              refine congrArg some ?_
              exact tup_Rg (gv_not (.inl (by unfold bgood; rw [c0, c1, decide_eq_false (show ¬ cc ≤ 10 from Int.not_le.2 (of_decide_eq_true c3))]; simp))).1 (gv_not (.inl (by unfold bgood; rw [c0, c1, decide_eq_false (show ¬ cc ≤ 10 from Int.not_le.2 (of_decide_eq_true c3))]; simp))).2
          · skip
            rintro ⟨e11, e12⟩
            (try simp only [e11, e12, Pi.eta, Pu.eta, Rg.eta])
            (try clear e11 e12)
            rintro ⟨e13, e14⟩
            (try simp only [e13, e14, Pi.eta, Pu.eta, Rg.eta])
            (try clear e13 e14)
            refine ⟨fun c4 => ?_, fun c4 => ?_⟩
            · skip
              rintro ⟨e15, e16, e17, e18, e19⟩
              (try simp only [e15, e16, e17, e18, e19, Pi.eta, Pu.eta, Rg.eta])
              (try clear e15 e16 e17 e18 e19)
              all_goals
                refine congrArg some ?_
                (have hcc : 0 ≤ cc ∧ cc ≤ 10 := ⟨Int.not_lt.1 (of_decide_eq_false c2), Int.not_lt.1 (of_decide_eq_false c3)⟩; have hg := gv_good c0 c1 hcc; obtain rfl := eqz c4; exact tup_Rg (gv_eq hg).1 (gv_eq hg).2)
            · skip
              refine ⟨fun c5 => ?_, fun c5 => ?_⟩
              · skip
                rintro ⟨e15, e16⟩
                (try simp only [e15, e16, Pi.eta, Pu.eta, Rg.eta])
                (try clear e15 e16)
                refine ⟨fun c6 => ?_, fun c6 => ?_⟩
                · skip
                  rintro ⟨e17, e18, e19⟩
                  (try simp only [e17, e18, e19, Pi.eta, Pu.eta, Rg.eta])
                  (try clear e17 e18 e19)
                  rintro ⟨e20, e21, e22⟩
                  (try simp only [e20, e21, e22, Pi.eta, Pu.eta, Rg.eta])
                  (try clear e20 e21 e22)
                  refine ⟨fun c7 => ?_, fun c7 => ?_⟩
                  · skip
                    refine ⟨fun c8 => ?_, fun c8 => ?_⟩
                    · skip
                      rintro ⟨e23, e24, e25, e26⟩
                      (try simp only [e23, e24, e25, e26, Pi.eta, Pu.eta, Rg.eta])
                      (try clear e23 e24 e25 e26)
                      rintro ⟨e27, e28, e29, e30, e31⟩
                      (try simp only [e27, e28, e29, e30, e31, Pi.eta, Pu.eta, Rg.eta])
                      (try clear e27 e28 e29 e30 e31)
                      all_goals
                        refine congrArg some ?_
                        (have hcc : 0 ≤ cc ∧ cc ≤ 10 := ⟨Int.not_lt.1 (of_decide_eq_false c2), Int.not_lt.1 (of_decide_eq_false c3)⟩; have hg := gv_good c0 c1 hcc; obtain rfl := eqz c5; have hq := gv_can (by omega) hg (gvc_1 ha hb c6 c7 c8) (gvr_1 ha hb c0 c6 c7 c8); exact tup_Rg hq.1 hq.2)
                    · skip
                      rintro ⟨e23, e24, e25, e26⟩
                      (try simp only [e23, e24, e25, e26, Pi.eta, Pu.eta, Rg.eta])
                      (try clear e23 e24 e25 e26)
                      all_goals
                        refine congrArg some ?_
                        (have hcc : 0 ≤ cc ∧ cc ≤ 10 := ⟨Int.not_lt.1 (of_decide_eq_false c2), Int.not_lt.1 (of_decide_eq_false c3)⟩; have hg := gv_good c0 c1 hcc; obtain rfl := eqz c5; have hq := gv_not (cc := 1) (.inr ⟨by omega, gvn_1 ha hb c6 (.inr c8)⟩); exact tup_Rg hq.1 hq.2)
                  · skip
                    rintro ⟨e23, e24, e25, e26⟩
                    (try simp only [e23, e24, e25, e26, Pi.eta, Pu.eta, Rg.eta])
                    (try clear e23 e24 e25 e26)
                    all_goals
                      refine congrArg some ?_
                      (have hcc : 0 ≤ cc ∧ cc ≤ 10 := ⟨Int.not_lt.1 (of_decide_eq_false c2), Int.not_lt.1 (of_decide_eq_false c3)⟩; have hg := gv_good c0 c1 hcc; obtain rfl := eqz c5; have hq := gv_not (cc := 1) (.inr ⟨by omega, gvn_1 ha hb c6 (.inl c7)⟩); exact tup_Rg hq.1 hq.2)
                · skip
                  rintro ⟨e17, e18, e19, e20⟩
                  (try simp only [e17, e18, e19, e20, Pi.eta, Pu.eta, Rg.eta])
                  (try clear e17 e18 e19 e20)
                  rintro ⟨e21, e22, e23, e24, e25⟩
                  (try simp only [e21, e22, e23, e24, e25, Pi.eta, Pu.eta, Rg.eta])
                  (try clear e21 e22 e23 e24 e25)
                  all_goals
                    refine congrArg some ?_
                    (have hcc : 0 ≤ cc ∧ cc ≤ 10 := ⟨Int.not_lt.1 (of_decide_eq_false c2), Int.not_lt.1 (of_decide_eq_false c3)⟩; have hg := gv_good c0 c1 hcc; obtain rfl := eqz c5; have hq := gv_can (by omega) hg (gvc_1n ha hb c6) (gvr_1n ha hb c6); exact tup_Rg hq.1 hq.2)
              · skip
                refine ⟨fun c9 => ?_, fun c9 => ?_⟩
                · skip
                  rintro ⟨e15, e16⟩
                  (try simp only [e15, e16, Pi.eta, Pu.eta, Rg.eta])
                  (try clear e15 e16)
                  rintro ⟨e17, e18, e19⟩
                  (try simp only [e17, e18, e19, Pi.eta, Pu.eta, Rg.eta])
                  (try clear e17 e18 e19)
                  refine ⟨fun c10 => ?_, fun c10 => ?_⟩
                  · skip
                    rintro ⟨e20, e21, e22, e23⟩
                    (try simp only [e20, e21, e22, e23, Pi.eta, Pu.eta, Rg.eta])
                    (try clear e20 e21 e22 e23)
                    rintro ⟨e24, e25, e26, e27, e28⟩
                    (try simp only [e24, e25, e26, e27, e28, Pi.eta, Pu.eta, Rg.eta])
                    (try clear e24 e25 e26 e27 e28)
                    all_goals
                      refine congrArg some ?_
                      (have hcc : 0 ≤ cc ∧ cc ≤ 10 := ⟨Int.not_lt.1 (of_decide_eq_false c2), Int.not_lt.1 (of_decide_eq_false c3)⟩; have hg := gv_good c0 c1 hcc; obtain rfl := eqz c9; have hq := gv_can (by omega) hg (gvc_2 ha hb c10) (gvr_2 ha hb c10); exact tup_Rg hq.1 hq.2)
                  · skip
                    rintro ⟨e20, e21, e22, e23⟩
                    (try simp only [e20, e21, e22, e23, Pi.eta, Pu.eta, Rg.eta])
                    (try clear e20 e21 e22 e23)
                    all_goals
                      refine congrArg some ?_
                      (have hcc : 0 ≤ cc ∧ cc ≤ 10 := ⟨Int.not_lt.1 (of_decide_eq_false c2), Int.not_lt.1 (of_decide_eq_false c3)⟩; have hg := gv_good c0 c1 hcc; obtain rfl := eqz c9; have hq := gv_not (cc := 2) (.inr ⟨by omega, gvn_2 ha hb c10⟩); exact tup_Rg hq.1 hq.2)
                · skip
                  refine ⟨fun c11 => ?_, fun c11 => ?_⟩
                  · skip
                    rintro ⟨e15, e16⟩
                    (try simp only [e15, e16, Pi.eta, Pu.eta, Rg.eta])
                    (try clear e15 e16)
                    rintro ⟨e17, e18, e19⟩
                    (try simp only [e17, e18, e19, Pi.eta, Pu.eta, Rg.eta])
                    (try clear e17 e18 e19)
                    refine ⟨fun c12 => ?_, fun c12 => ?_⟩
                    · skip
                      rintro ⟨e20, e21, e22, e23⟩
                      (try simp only [e20, e21, e22, e23, Pi.eta, Pu.eta, Rg.eta])
                      (try clear e20 e21 e22 e23)
                      rintro ⟨e24, e25, e26, e27, e28⟩
                      (try simp only [e24, e25, e26, e27, e28, Pi.eta, Pu.eta, Rg.eta])
                      (try clear e24 e25 e26 e27 e28)
                      all_goals
                        refine congrArg some ?_
                        (have hcc : 0 ≤ cc ∧ cc ≤ 10 := ⟨Int.not_lt.1 (of_decide_eq_false c2), Int.not_lt.1 (of_decide_eq_false c3)⟩; have hg := gv_good c0 c1 hcc; obtain rfl := eqz c11; have hq := gv_can (by omega) hg (gvc_3 ha hb c12) (gvr_3 ha hb c12); exact tup_Rg hq.1 hq.2)
                    · skip
                      rintro ⟨e20, e21, e22, e23⟩
                      (try simp only [e20, e21, e22, e23, Pi.eta, Pu.eta, Rg.eta])
                      (try clear e20 e21 e22 e23)
                      all_goals
                        refine congrArg some ?_
                        (have hcc : 0 ≤ cc ∧ cc ≤ 10 := ⟨Int.not_lt.1 (of_decide_eq_false c2), Int.not_lt.1 (of_decide_eq_false c3)⟩; have hg := gv_good c0 c1 hcc; obtain rfl := eqz c11; exact absurd c12 (by simp))
                  · skip
                    refine ⟨fun c13 => ?_, fun c13 => ?_⟩
                    · skip
                      rintro ⟨e15, e16⟩
                      (try simp only [e15, e16, Pi.eta, Pu.eta, Rg.eta])
                      (try clear e15 e16)
                      rintro ⟨e17, e18, e19⟩
                      (try simp only [e17, e18, e19, Pi.eta, Pu.eta, Rg.eta])
                      (try clear e17 e18 e19)
                      refine ⟨fun c14 => ?_, fun c14 => ?_⟩
                      · skip
                        rintro ⟨e20, e21, e22, e23⟩
                        (try simp only [e20, e21, e22, e23, Pi.eta, Pu.eta, Rg.eta])
                        (try clear e20 e21 e22 e23)
                        rintro ⟨e24, e25, e26, e27, e28⟩
                        (try simp only [e24, e25, e26, e27, e28, Pi.eta, Pu.eta, Rg.eta])
                        (try clear e24 e25 e26 e27 e28)
                        all_goals
                          refine congrArg some ?_
                          (have hcc : 0 ≤ cc ∧ cc ≤ 10 := ⟨Int.not_lt.1 (of_decide_eq_false c2), Int.not_lt.1 (of_decide_eq_false c3)⟩; have hg := gv_good c0 c1 hcc; obtain rfl := eqz c13; have hq := gv_can (by omega) hg (gvc_4 ha hb c14) (gvr_4 ha hb c14); exact tup_Rg hq.1 hq.2)
                      · skip
                        rintro ⟨e20, e21, e22, e23⟩
                        (try simp only [e20, e21, e22, e23, Pi.eta, Pu.eta, Rg.eta])
                        (try clear e20 e21 e22 e23)
                        all_goals
                          refine congrArg some ?_
                          (have hcc : 0 ≤ cc ∧ cc ≤ 10 := ⟨Int.not_lt.1 (of_decide_eq_false c2), Int.not_lt.1 (of_decide_eq_false c3)⟩; have hg := gv_good c0 c1 hcc; obtain rfl := eqz c13; have hq := gv_not (cc := 4) (.inr ⟨by omega, gvn_4 ha hb c14⟩); exact tup_Rg hq.1 hq.2)
                    · skip
                      refine ⟨fun c15 => ?_, fun c15 => ?_⟩
                      · skip
                        rintro ⟨e15, e16⟩
                        (try simp only [e15, e16, Pi.eta, Pu.eta, Rg.eta])
                        (try clear e15 e16)
                        rintro ⟨e17, e18, e19⟩
                        (try simp only [e17, e18, e19, Pi.eta, Pu.eta, Rg.eta])
                        (try clear e17 e18 e19)
                        refine ⟨fun c16 => ?_, fun c16 => ?_⟩
                        · skip
                          rintro ⟨e20, e21, e22, e23⟩
                          (try simp only [e20, e21, e22, e23, Pi.eta, Pu.eta, Rg.eta])
                          (try clear e20 e21 e22 e23)
                          rintro ⟨e24, e25, e26, e27, e28⟩
                          (try simp only [e24, e25, e26, e27, e28, Pi.eta, Pu.eta, Rg.eta])
                          (try clear e24 e25 e26 e27 e28)
                          all_goals
                            refine congrArg some ?_
                            (have hcc : 0 ≤ cc ∧ cc ≤ 10 := ⟨Int.not_lt.1 (of_decide_eq_false c2), Int.not_lt.1 (of_decide_eq_false c3)⟩; have hg := gv_good c0 c1 hcc; obtain rfl := eqz c15; have hq := gv_can (by omega) hg (gvc_5 ha hb c16) (gvr_5 ha hb c16); exact tup_Rg hq.1 hq.2)
                        · skip
                          rintro ⟨e20, e21, e22, e23⟩
                          (try simp only [e20, e21, e22, e23, Pi.eta, Pu.eta, Rg.eta])
                          (try clear e20 e21 e22 e23)
                          all_goals
                            refine congrArg some ?_
                            (have hcc : 0 ≤ cc ∧ cc ≤ 10 := ⟨Int.not_lt.1 (of_decide_eq_false c2), Int.not_lt.1 (of_decide_eq_false c3)⟩; have hg := gv_good c0 c1 hcc; obtain rfl := eqz c15; exact absurd c16 (by simp))
                      · skip
                        refine ⟨fun c17 => ?_, fun c17 => ?_⟩
                        · skip
                          rintro ⟨e15, e16⟩
                          (try simp only [e15, e16, Pi.eta, Pu.eta, Rg.eta])
                          (try clear e15 e16)
                          rintro ⟨e17, e18, e19⟩
                          (try simp only [e17, e18, e19, Pi.eta, Pu.eta, Rg.eta])
                          (try clear e17 e18 e19)
                          refine ⟨fun c18 => ?_, fun c18 => ?_⟩
                          · skip
                            rintro ⟨e20, e21, e22, e23⟩
                            (try simp only [e20, e21, e22, e23, Pi.eta, Pu.eta, Rg.eta])
                            (try clear e20 e21 e22 e23)
                            rintro ⟨e24, e25, e26, e27, e28⟩
                            (try simp only [e24, e25, e26, e27, e28, Pi.eta, Pu.eta, Rg.eta])
                            (try clear e24 e25 e26 e27 e28)
                            all_goals
                              refine congrArg some ?_
                              (have hcc : 0 ≤ cc ∧ cc ≤ 10 := ⟨Int.not_lt.1 (of_decide_eq_false c2), Int.not_lt.1 (of_decide_eq_false c3)⟩; have hg := gv_good c0 c1 hcc; obtain rfl := eqz c17; have hq := gv_can (by omega) hg (gvc_6 ha hb c18) (gvr_6 ha hb c18); exact tup_Rg hq.1 hq.2)
                          · skip
                            rintro ⟨e20, e21, e22, e23⟩
                            (try simp only [e20, e21, e22, e23, Pi.eta, Pu.eta, Rg.eta])
                            (try clear e20 e21 e22 e23)
                            all_goals
                              refine congrArg some ?_
                              (have hcc : 0 ≤ cc ∧ cc ≤ 10 := ⟨Int.not_lt.1 (of_decide_eq_false c2), Int.not_lt.1 (of_decide_eq_false c3)⟩; have hg := gv_good c0 c1 hcc; obtain rfl := eqz c17; have hq := gv_not (cc := 6) (.inr ⟨by omega, gvn_6 ha hb c18⟩); exact tup_Rg hq.1 hq.2)
                        · skip
                          refine ⟨fun c19 => ?_, fun c19 => ?_⟩
                          · skip
                            rintro ⟨e15, e16⟩
                            (try simp only [e15, e16, Pi.eta, Pu.eta, Rg.eta])
                            (try clear e15 e16)
                            rintro ⟨e17, e18, e19⟩
                            (try simp only [e17, e18, e19, Pi.eta, Pu.eta, Rg.eta])
                            (try clear e17 e18 e19)
                            refine ⟨fun c20 => ?_, fun c20 => ?_⟩
                            · skip
                              rintro ⟨e20, e21, e22, e23⟩
                              (try simp only [e20, e21, e22, e23, Pi.eta, Pu.eta, Rg.eta])
                              (try clear e20 e21 e22 e23)
                              rintro ⟨e24, e25, e26, e27, e28⟩
                              (try simp only [e24, e25, e26, e27, e28, Pi.eta, Pu.eta, Rg.eta])
                              (try clear e24 e25 e26 e27 e28)
                              all_goals
                                refine congrArg some ?_
                                (have hcc : 0 ≤ cc ∧ cc ≤ 10 := ⟨Int.not_lt.1 (of_decide_eq_false c2), Int.not_lt.1 (of_decide_eq_false c3)⟩; have hg := gv_good c0 c1 hcc; obtain rfl := eqz c19; have hq := gv_can (by omega) hg (gvc_7 ha hb c20) (gvr_7 ha hb c20); exact tup_Rg hq.1 hq.2)
                            · skip
                              rintro ⟨e20, e21, e22, e23⟩
                              (try simp only [e20, e21, e22, e23, Pi.eta, Pu.eta, Rg.eta])
                              (try clear e20 e21 e22 e23)
                              all_goals
                                refine congrArg some ?_
                                (have hcc : 0 ≤ cc ∧ cc ≤ 10 := ⟨Int.not_lt.1 (of_decide_eq_false c2), Int.not_lt.1 (of_decide_eq_false c3)⟩; have hg := gv_good c0 c1 hcc; obtain rfl := eqz c19; exact absurd c20 (by simp))
                          · skip
                            refine ⟨fun c21 => ?_, fun c21 => ?_⟩
                            · skip
                              rintro ⟨e15, e16⟩
                              (try simp only [e15, e16, Pi.eta, Pu.eta, Rg.eta])
                              (try clear e15 e16)
                              rintro ⟨e17, e18, e19⟩
                              (try simp only [e17, e18, e19, Pi.eta, Pu.eta, Rg.eta])
                              (try clear e17 e18 e19)
                              refine ⟨fun c22 => ?_, fun c22 => ?_⟩
                              · skip
                                rintro ⟨e20, e21, e22, e23⟩
                                (try simp only [e20, e21, e22, e23, Pi.eta, Pu.eta, Rg.eta])
                                (try clear e20 e21 e22 e23)
                                rintro ⟨e24, e25, e26, e27, e28⟩
                                (try simp only [e24, e25, e26, e27, e28, Pi.eta, Pu.eta, Rg.eta])
                                (try clear e24 e25 e26 e27 e28)
                                all_goals
                                  refine congrArg some ?_
                                  (have hcc : 0 ≤ cc ∧ cc ≤ 10 := ⟨Int.not_lt.1 (of_decide_eq_false c2), Int.not_lt.1 (of_decide_eq_false c3)⟩; have hg := gv_good c0 c1 hcc; obtain rfl := eqz c21; have hq := gv_can (by omega) hg (gvc_8 ha hb c22) (gvr_8 ha hb c22); exact tup_Rg hq.1 hq.2)
                              · skip
                                rintro ⟨e20, e21, e22, e23⟩
                                (try simp only [e20, e21, e22, e23, Pi.eta, Pu.eta, Rg.eta])
                                (try clear e20 e21 e22 e23)
                                all_goals
                                  refine congrArg some ?_
                                  (have hcc : 0 ≤ cc ∧ cc ≤ 10 := ⟨Int.not_lt.1 (of_decide_eq_false c2), Int.not_lt.1 (of_decide_eq_false c3)⟩; have hg := gv_good c0 c1 hcc; obtain rfl := eqz c21; have hq := gv_not (cc := 8) (.inr ⟨by omega, gvn_8 ha hb c22⟩); exact tup_Rg hq.1 hq.2)
                            · skip
                              refine ⟨fun c23 => ?_, fun c23 => ?_⟩
                              · skip
                                rintro ⟨e15, e16⟩
                                (try simp only [e15, e16, Pi.eta, Pu.eta, Rg.eta])
                                (try clear e15 e16)
                                rintro ⟨e17, e18, e19⟩
                                (try simp only [e17, e18, e19, Pi.eta, Pu.eta, Rg.eta])
                                (try clear e17 e18 e19)
                                refine ⟨fun c24 => ?_, fun c24 => ?_⟩
                                · skip
                                  rintro ⟨e20, e21, e22, e23⟩
                                  (try simp only [e20, e21, e22, e23, Pi.eta, Pu.eta, Rg.eta])
                                  (try clear e20 e21 e22 e23)
                                  rintro ⟨e24, e25, e26, e27, e28⟩
                                  (try simp only [e24, e25, e26, e27, e28, Pi.eta, Pu.eta, Rg.eta])
                                  (try clear e24 e25 e26 e27 e28)
                                  all_goals
                                    refine congrArg some ?_
                                    (have hcc : 0 ≤ cc ∧ cc ≤ 10 := ⟨Int.not_lt.1 (of_decide_eq_false c2), Int.not_lt.1 (of_decide_eq_false c3)⟩; have hg := gv_good c0 c1 hcc; obtain rfl := eqz c23; have hq := gv_can (by omega) hg (gvc_9 ha hb c24) (gvr_9 ha hb c24); exact tup_Rg hq.1 hq.2)
                                · skip
                                  rintro ⟨e20, e21, e22, e23⟩
                                  (try simp only [e20, e21, e22, e23, Pi.eta, Pu.eta, Rg.eta])
                                  (try clear e20 e21 e22 e23)
                                  all_goals
                                    refine congrArg some ?_
                                    (have hcc : 0 ≤ cc ∧ cc ≤ 10 := ⟨Int.not_lt.1 (of_decide_eq_false c2), Int.not_lt.1 (of_decide_eq_false c3)⟩; have hg := gv_good c0 c1 hcc; obtain rfl := eqz c23; exact absurd c24 (by simp))
                              · skip
                                rintro ⟨e15, e16, e17, e18⟩
                                (try simp only [e15, e16, e17, e18, Pi.eta, Pu.eta, Rg.eta])
                                (try clear e15 e16 e17 e18)
                                rintro ⟨e19, e20, e21, e22, e23⟩
                                (try simp only [e19, e20, e21, e22, e23, Pi.eta, Pu.eta, Rg.eta])
                                (try clear e19 e20 e21 e22 e23)
                                all_goals
                                  refine congrArg some ?_
                                  (have hcc : 0 ≤ cc ∧ cc ≤ 10 := ⟨Int.not_lt.1 (of_decide_eq_false c2), Int.not_lt.1 (of_decide_eq_false c3)⟩; have hg := gv_good c0 c1 hcc; obtain rfl : cc = 10 := (by have := nez c4; have h1 := nez c5; have h2 := nez c9; have h3 := nez c11; have h4 := nez c13; have h5 := nez c15; have h6 := nez c17; have h7 := nez c19; have h8 := nez c21; have h9 := nez c23; omega); have hq := gv_can (by omega) hg (gvc_10 ha hb) (gvr_10 ha hb); exact tup_Rg hq.1 hq.2)
      · skip
        rintro ⟨e11, e12, e13, e14⟩
        (try simp only [e11, e12, e13, e14, Pi.eta, Pu.eta, Rg.eta])
        (try clear e11 e12 e13 e14)
        all_goals
          refine congrArg some ?_
          exact tup_Rg (gv_not (.inl (by unfold bgood; rw [c0, c1]; rfl))).1 (gv_not (.inl (by unfold bgood; rw [c0, c1]; rfl))).2
    · skip
      rintro ⟨e10, e11, e12, e13⟩
      (try simp only [e10, e11, e12, e13, Pi.eta, Pu.eta, Rg.eta])
      (try clear e10 e11 e12 e13)
      all_goals
        refine congrArg some ?_
        exact tup_Rg (gv_not (.inl (by unfold bgood; rw [c0]; rfl))).1 (gv_not (.inl (by unfold bgood; rw [c0]; rfl))).2
def sM_given (key : Nat) : Sm := ⟨19, key, [(false, [.int .i8]), (true, [.int .u64, .int .u64, .int .i64, .int .i64]), (true, [.int .u64, .int .u64, .int .i64, .int .i64])], [(true, [.int .u64, .int .u64, .int .i64, .int .i64]), (false, [.bool])], true⟩
def sI_given : Nat → List Int → Int
  | 0, [x0, x1, x2, x3, x4, x5, x6, x7, x8] => (fun (cc : Int) (a : Rg) (b : Rg) => (bgiv cc a b).ul) x0 ⟨x1, x2, x3, x4⟩ ⟨x5, x6, x7, x8⟩
  | 1, [x0, x1, x2, x3, x4, x5, x6, x7, x8] => (fun (cc : Int) (a : Rg) (b : Rg) => (bgiv cc a b).uh) x0 ⟨x1, x2, x3, x4⟩ ⟨x5, x6, x7, x8⟩
  | 2, [x0, x1, x2, x3, x4, x5, x6, x7, x8] => (fun (cc : Int) (a : Rg) (b : Rg) => (bgiv cc a b).sl) x0 ⟨x1, x2, x3, x4⟩ ⟨x5, x6, x7, x8⟩
  | 3, [x0, x1, x2, x3, x4, x5, x6, x7, x8] => (fun (cc : Int) (a : Rg) (b : Rg) => (bgiv cc a b).sh) x0 ⟨x1, x2, x3, x4⟩ ⟨x5, x6, x7, x8⟩
  | _, _ => 0
def sB_given : Nat → List Int → Bool
  | 4, [x0, x1, x2, x3, x4, x5, x6, x7, x8] => (fun (cc : Int) (a : Rg) (b : Rg) => bgok cc a b) x0 ⟨x1, x2, x3, x4⟩ ⟨x5, x6, x7, x8⟩
  | _, _ => false
theorem sK_given {sp : Spec} {key : Nat} (hI : sp.I key = sI_given) (hB : sp.B key = sB_given) : SmOk Try.prog sp (sM_given key) := by
  refine SmOk.of (.inl ⟨run_enter Try.func19 (by kernel_rfl) (by kernel_rfl), fun xs vals h => ?_⟩) (.inl rfl)
  obtain ⟨_, _, _, d1, h1, rfl⟩ := shO h
  obtain ⟨x0, rfl, rfl, gx0⟩ := ckI d1
  obtain ⟨_, _, _, p2, h2, rfl⟩ := shA h1
  obtain ⟨_, _, _, d2_0, p2_0, rfl⟩ := cksC p2
  obtain ⟨x1, rfl, rfl, gx1⟩ := ckI d2_0
  obtain ⟨_, _, _, d2_1, p2_1, rfl⟩ := cksC p2_0
  obtain ⟨x2, rfl, rfl, gx2⟩ := ckI d2_1
  obtain ⟨_, _, _, d2_2, p2_2, rfl⟩ := cksC p2_1
  obtain ⟨x3, rfl, rfl, gx3⟩ := ckI d2_2
  obtain ⟨_, _, _, d2_3, p2_3, rfl⟩ := cksC p2_2
  obtain ⟨x4, rfl, rfl, gx4⟩ := ckI d2_3
  obtain ⟨rfl, rfl⟩ := cksN p2_3
  obtain ⟨_, _, _, p3, h3, rfl⟩ := shA h2
  obtain ⟨_, _, _, d3_0, p3_0, rfl⟩ := cksC p3
  obtain ⟨x5, rfl, rfl, gx5⟩ := ckI d3_0
  obtain ⟨_, _, _, d3_1, p3_1, rfl⟩ := cksC p3_0
  obtain ⟨x6, rfl, rfl, gx6⟩ := ckI d3_1
  obtain ⟨_, _, _, d3_2, p3_2, rfl⟩ := cksC p3_1
  obtain ⟨x7, rfl, rfl, gx7⟩ := ckI d3_2
  obtain ⟨_, _, _, d3_3, p3_3, rfl⟩ := cksC p3_2
  obtain ⟨x8, rfl, rfl, gx8⟩ := ckI d3_3
  obtain ⟨rfl, rfl⟩ := cksN p3_3
  obtain ⟨rfl, rfl⟩ := shN h3
  refine ⟨_, sX_given x0 gx0 ⟨x1, x2, x3, x4⟩ ⟨gx1, gx2, gx3, gx4⟩ ⟨x5, x6, x7, x8⟩ ⟨gx5, gx6, gx7, gx8⟩, fun ρ v0 he => ?_⟩
  have he' : ρ.i (v0 + 0) = sp.I key 0 [x0, x1, x2, x3, x4, x5, x6, x7, x8] ∧ ρ.i (v0 + 1) = sp.I key 1 [x0, x1, x2, x3, x4, x5, x6, x7, x8] ∧ ρ.i (v0 + 2) = sp.I key 2 [x0, x1, x2, x3, x4, x5, x6, x7, x8] ∧ ρ.i (v0 + 3) = sp.I key 3 [x0, x1, x2, x3, x4, x5, x6, x7, x8] ∧ ρ.b (v0 + 4) = sp.B key 4 [x0, x1, x2, x3, x4, x5, x6, x7, x8] ∧ True := he
  simp only [hI, hB] at he'
  obtain ⟨e0, e1, e2, e3, e4, -⟩ := he'
  show some (.tuple #[.agg #[.int .u64 (ρ.i (v0 + 0)), .int .u64 (ρ.i (v0 + 1)), .int .i64 (ρ.i (v0 + 2)), .int .i64 (ρ.i (v0 + 3))], .bool (ρ.b (v0 + 4))] : Value) = _
  rw [e0, e1, e2, e3, e4]
  rfl
end Go.Proofs.Ytcngfmhhaleoaaa
