/- Contracts of sum and Do of package bounds, by the symbolic run. -/
import Derived.Test.YtcngfmhhaleoaaaXbL
import Derived.Test.YtcngfmhhaleoaaaBdT
import Derived.Test.YtcngfmhhaleoaaaProg
import Derived.Laws.Externs
set_option linter.unusedVariables false
set_option linter.unusedSimpArgs false
namespace Go.Proofs.Ytcngfmhhaleoaaa
open Go.RowKit Go.ChangeShapes Go.WideShapes

def okop (op l : Int) : Bool := (decide (0 ≤ op) && decide (op ≤ 12)) && zlong l
theorem u64_inK {x : Int} (h : 0 ≤ x ∧ x ≤ 18446744073709551615) : inK .u64 x = true := by
  rw [inK_iff]; simpa [IntKind.min, IntKind.max, IntKind.signed, IntKind.bits] using h
theorem i64_inK {x : Int} (h : -9223372036854775808 ≤ x ∧ x ≤ 9223372036854775807) : inK .i64 x = true := by
  rw [inK_iff]; simpa [IntKind.min, IntKind.max, IntKind.signed, IntKind.bits] using h
def tys_XbC : List (Nat × TI) := [(2, ⟨false, 1, [.int .i64 (.lit 0)], [], none, some .i64, false, false⟩),
  (22, ⟨false, 1, [.int .u64 (.lit 0)], [], none, some .u64, false, false⟩),
  (24, ⟨true, 4, [.int .u64 (.lit 0), .int .u64 (.lit 0), .int .i64 (.lit 0), .int .i64 (.lit 0)], [(0, 22), (1, 22), (2, 2), (3, 2)], none, none, false, false⟩)]
set_option maxRecDepth 100000 in
theorem tysck_XbC : (tys_XbC.all fun p => ckTI Try.prog p.1 p.2) = true := by kernel_rfl
theorem tysne_XbC : (tys_XbC.all fun p => !p.2.eqok) = true := by kernel_rfl
theorem tysok_XbC : ∀ t i, (t, i) ∈ tys_XbC → TIok Try.prog t i := by
  intro t i h
  have h1 := all_at (f := fun _ i => !i.eqok) tysne_XbC h
  exact TIok_of (all_at (f := ckTI Try.prog) tysck_XbC h) (fun he => by simp [he] at h1) (fun he => by simp [he] at h1)
theorem sX_add64 (x : Int) (hx : inK .u64 x = true) (y : Int) (hy : inK .u64 y = true) : (∀ w, (callFunc 103 #[.int .u64 x, .int .u64 y, .int .u64 0]).run Try.prog w = .ok (.value (.tuple #[.int .u64 ((x + y) % 18446744073709551616), .int .u64 ((x + y) / 18446744073709551616)])) w) ∧ valIn (.tuple #[.int .u64 ((x + y) % 18446744073709551616), .int .u64 ((x + y) / 18446744073709551616)]) = true := by
  have gx := inK_u64 hx
  have gy := inK_u64 hy
  refine ⟨fun w => ?_, ?_⟩
  · rw [run_callFunc_extern Try.func103 (by kernel_rfl) (by kernel_rfl) (by kernel_rfl) (e := add64Entry) (by kernel_rfl), run_add64 x y 0 gx.1 gy.1 (by omega) (by omega)]
    simp only [Result.andThen, Int.add_zero]
  · have h1 : inK .u64 ((x + y) % 18446744073709551616) = true := u64_inK (by omega)
    have h2 : inK .u64 ((x + y) / 18446744073709551616) = true := u64_inK (by omega)
    simp [valIn, partIn, cellIn, h1, h2]
def sM_add64 (key : Nat) : Sm := ⟨103, key, [(false, [.int .u64]), (false, [.int .u64]), (false, [.lit .u64 0])], [(false, [.int .u64]), (false, [.int .u64])], true⟩
def sI_add64 : Nat → List Int → Int
  | 0, [x0, x1] => (fun (x : Int) (y : Int) => (x + y) % 18446744073709551616) x0 x1
  | 1, [x0, x1] => (fun (x : Int) (y : Int) => (x + y) / 18446744073709551616) x0 x1
  | _, _ => 0
def sB_add64 : Nat → List Int → Bool
  | _, _ => false
theorem sK_add64 {sp : Spec} {key : Nat} (hI : sp.I key = sI_add64) (hB : sp.B key = sB_add64) : SmOk Try.prog sp (sM_add64 key) := by
  refine SmOk.of (.inr (fun xs vals h => ?_)) (.inl rfl)
  obtain ⟨_, _, _, d1, h1, rfl⟩ := shO h
  obtain ⟨x0, rfl, rfl, gx0⟩ := ckI d1
  obtain ⟨_, _, _, d2, h2, rfl⟩ := shO h1
  obtain ⟨x1, rfl, rfl, gx1⟩ := ckI d2
  obtain ⟨_, _, _, d3, h3, rfl⟩ := shO h2
  obtain ⟨rfl, rfl⟩ := ckT d3
  obtain ⟨rfl, rfl⟩ := shN h3
  refine ⟨_, sX_add64 x0 gx0 x1 gx1, fun ρ v0 he => ?_⟩
  have he' : ρ.i (v0 + 0) = sp.I key 0 [x0, x1] ∧ ρ.i (v0 + 1) = sp.I key 1 [x0, x1] ∧ True := he
  simp only [hI, hB] at he'
  obtain ⟨e0, e1, -⟩ := he'
  show some (.tuple #[.int .u64 (ρ.i (v0 + 0)), .int .u64 (ρ.i (v0 + 1))] : Value) = _
  rw [e0, e1]
  rfl
theorem sX_len (x : Int) (hx : inK .u64 x = true) : (∀ w, Calls Try.prog 70 #[.int .u64 x] w fun e w' => e = .returned (.int .i64 ((blenN x.toNat : Int))) ∧ Ext w w') ∧ valIn (.int .i64 ((blenN x.toNat : Int))) = true := by
  have g := inK_u64 hx
  have hb : blenN x.toNat ≤ 64 := blen_le (by omega)
  have h : inK .i64 (blenN x.toNat : Int) = true := i64_inK (by omega)
  exact ⟨fun w => b_len x g.1 g.2 w w (Ext.refl w), h⟩
def sM_len (key : Nat) : Sm := ⟨70, key, [(false, [.int .u64])], [(false, [.int .i64])], false⟩
def sI_len : Nat → List Int → Int
  | 0, [x0] => (fun (x : Int) => (blenN x.toNat : Int)) x0
  | _, _ => 0
def sB_len : Nat → List Int → Bool
  | _, _ => false
theorem sK_len {sp : Spec} {key : Nat} (hI : sp.I key = sI_len) (hB : sp.B key = sB_len) : SmOk Try.prog sp (sM_len key) := by
  refine SmOk.of (.inl ⟨run_enter Try.func70 (by kernel_rfl) (by kernel_rfl), fun xs vals h => ?_⟩) (.inr (.inr ⟨_, rfl⟩))
  obtain ⟨_, _, _, d1, h1, rfl⟩ := shO h
  obtain ⟨x0, rfl, rfl, gx0⟩ := ckI d1
  obtain ⟨rfl, rfl⟩ := shN h1
  refine ⟨_, sX_len x0 gx0, fun ρ v0 he => ?_⟩
  have he' : ρ.i (v0 + 0) = sp.I key 0 [x0] ∧ True := he
  simp only [hI, hB] at he'
  obtain ⟨e0, -⟩ := he'
  show some (.int .i64 (ρ.i (v0 + 0)) : Value) = _
  rw [e0]
  rfl
theorem sX_lz (x : Int) (hx : inK .u64 x = true) : (∀ w, Calls Try.prog 72 #[.int .u64 x] w fun e w' => e = .returned (.int .i64 (64 - (blenN x.toNat : Int))) ∧ Ext w w') ∧ valIn (.int .i64 (64 - (blenN x.toNat : Int))) = true := by
  have g := inK_u64 hx
  have hb : blenN x.toNat ≤ 64 := blen_le (by omega)
  have h : inK .i64 (64 - (blenN x.toNat : Int)) = true := i64_inK (by omega)
  exact ⟨fun w => b_lz x g.1 g.2 w w (Ext.refl w), h⟩
def sM_lz (key : Nat) : Sm := ⟨72, key, [(false, [.int .u64])], [(false, [.int .i64])], false⟩
def sI_lz : Nat → List Int → Int
  | 0, [x0] => (fun (x : Int) => 64 - (blenN x.toNat : Int)) x0
  | _, _ => 0
def sB_lz : Nat → List Int → Bool
  | _, _ => false
theorem sK_lz {sp : Spec} {key : Nat} (hI : sp.I key = sI_lz) (hB : sp.B key = sB_lz) : SmOk Try.prog sp (sM_lz key) := by
  refine SmOk.of (.inl ⟨run_enter Try.func72 (by kernel_rfl) (by kernel_rfl), fun xs vals h => ?_⟩) (.inr (.inr ⟨_, rfl⟩))
  obtain ⟨_, _, _, d1, h1, rfl⟩ := shO h
  obtain ⟨x0, rfl, rfl, gx0⟩ := ckI d1
  obtain ⟨rfl, rfl⟩ := shN h1
  refine ⟨_, sX_lz x0 gx0, fun ρ v0 he => ?_⟩
  have he' : ρ.i (v0 + 0) = sp.I key 0 [x0] ∧ True := he
  simp only [hI, hB] at he'
  obtain ⟨e0, -⟩ := he'
  show some (.int .i64 (ρ.i (v0 + 0)) : Value) = _
  rw [e0]
  rfl
def sT_sum : Tr :=
(.call 0 [.int .u64, .int .u64, .int .i64, .int .i64] .nil 9
 (.br (.bvar 8)
 (.br (.lt (.var 0) (.var 5))
  (.call 3 [.int .i64, .bool] (.cons (.var 2) (.cons (.var 7) .nil)) 13
   (.call 3 [.int .i64, .bool] (.cons (.var 3) (.cons (.var 6) .nil)) 15
   (.br (.bvar 14)
   (.br (.bvar 16)
    (.leaf (.agg [.int .u64 (.var 9), .int .u64 (.var 10), .int .i64 (.var 13), .int .i64 (.var 15)]))
    (.leaf (.agg [.int .u64 (.var 9), .int .u64 (.var 10), .int .i64 (.var 11), .int .i64 (.var 12)])))
   (.leaf (.agg [.int .u64 (.var 9), .int .u64 (.var 10), .int .i64 (.var 11), .int .i64 (.var 12)])))))
  (.call 3 [.int .i64, .bool] (.cons (.var 2) (.cons (.var 7) .nil)) 13
   (.call 3 [.int .i64, .bool] (.cons (.var 3) (.cons (.var 6) .nil)) 15
   (.br (.bvar 14)
   (.br (.bvar 16)
    (.leaf (.agg [.int .u64 (.bin .sub .u64 (.var 0) (.var 5)), .int .u64 (.bin .sub .u64 (.var 1) (.var 4)), .int .i64 (.var 13), .int .i64 (.var 15)]))
    (.leaf (.agg [.int .u64 (.bin .sub .u64 (.var 0) (.var 5)), .int .u64 (.bin .sub .u64 (.var 1) (.var 4)), .int .i64 (.var 11), .int .i64 (.var 12)])))
   (.leaf (.agg [.int .u64 (.bin .sub .u64 (.var 0) (.var 5)), .int .u64 (.bin .sub .u64 (.var 1) (.var 4)), .int .i64 (.var 11), .int .i64 (.var 12)]))))))
 (.call 1 [.int .u64, .int .u64] (.cons (.var 1) (.cons (.var 5) .nil)) 13
  (.br (.eq (.var 14) (.lit 0))
  (.call 2 [.int .i64, .bool] (.cons (.var 2) (.cons (.var 6) .nil)) 15
   (.call 2 [.int .i64, .bool] (.cons (.var 3) (.cons (.var 7) .nil)) 17
   (.br (.bvar 16)
   (.br (.bvar 18)
    (.leaf (.agg [.int .u64 (.bin .add .u64 (.var 0) (.var 4)), .int .u64 (.var 13), .int .i64 (.var 15), .int .i64 (.var 17)]))
    (.leaf (.agg [.int .u64 (.bin .add .u64 (.var 0) (.var 4)), .int .u64 (.var 13), .int .i64 (.var 11), .int .i64 (.var 12)])))
   (.leaf (.agg [.int .u64 (.bin .add .u64 (.var 0) (.var 4)), .int .u64 (.var 13), .int .i64 (.var 11), .int .i64 (.var 12)])))))
  (.call 2 [.int .i64, .bool] (.cons (.var 2) (.cons (.var 6) .nil)) 15
   (.call 2 [.int .i64, .bool] (.cons (.var 3) (.cons (.var 7) .nil)) 17
   (.br (.bvar 16)
   (.br (.bvar 18)
    (.leaf (.agg [.int .u64 (.var 9), .int .u64 (.var 10), .int .i64 (.var 15), .int .i64 (.var 17)]))
    (.leaf (.agg [.int .u64 (.var 9), .int .u64 (.var 10), .int .i64 (.var 11), .int .i64 (.var 12)])))
   (.leaf (.agg [.int .u64 (.var 9), .int .u64 (.var 10), .int .i64 (.var 11), .int .i64 (.var 12)])))))))))
def sP_sum : Spec := ⟨fun k => match k with | 0 => sI_all | 1 => sI_add64 | 2 => sI_plus | 3 => sI_minus | _ => fun _ _ => 0, fun k => match k with | 0 => sB_all | 1 => sB_add64 | 2 => sB_plus | 3 => sB_minus | _ => fun _ _ => false⟩
set_option maxRecDepth 100000 in
theorem sR_sum : funK ⟨tys_XbC, [sM_all 0, sM_add64 1, sM_plus 2, sM_minus 3]⟩ 200 Try.f71 [.agg [.int .u64 (.var 0), .int .u64 (.var 1), .int .i64 (.var 2), .int .i64 (.var 3)], .agg [.int .u64 (.var 4), .int .u64 (.var 5), .int .i64 (.var 6), .int .i64 (.var 7)], .one (.bool (.bvar 8))] ⟨[], [], [some .u64, some .u64, some .i64, some .i64, some .u64, some .u64, some .i64, some .i64, none]⟩ = sT_sum := by kernel_rfl
set_option maxRecDepth 100000 in
set_option maxHeartbeats 8000000 in
theorem sX_sum (a : Rg) (ha : Rg.ok a) (b : Rg) (hb : Rg.ok b) (t : Bool) : (∀ w, Calls Try.prog 71 #[.agg #[.int .u64 a.ul, .int .u64 a.uh, .int .i64 a.sl, .int .i64 a.sh], .agg #[.int .u64 b.ul, .int .u64 b.uh, .int .i64 b.sl, .int .i64 b.sh], .bool t] w fun e w' => e = .returned (.agg #[.int .u64 (xsum t a b).ul, .int .u64 (xsum t a b).uh, .int .i64 (xsum t a b).sl, .int .i64 (xsum t a b).sh]) ∧ Ext w w') ∧ valIn (.agg #[.int .u64 (xsum t a b).ul, .int .u64 (xsum t a b).uh, .int .i64 (xsum t a b).sl, .int .i64 (xsum t a b).sh]) = true := by
  refine fun_calls (cx := ⟨tys_XbC, [sM_all 0, sM_add64 1, sM_plus 2, sM_minus 3]⟩) (sp := sP_sum) (t := sT_sum) (by kernel_rfl) tysok_XbC (List.forall_mem_cons.2 ⟨sK_all rfl rfl, List.forall_mem_cons.2 ⟨sK_add64 rfl rfl, List.forall_mem_cons.2 ⟨sK_plus rfl rfl, List.forall_mem_cons.2 ⟨sK_minus rfl rfl, fun _ h => (by cases h)⟩⟩⟩⟩) (keys_of (by kernel_rfl)) Try.func71 ⟨fun n => ([a.ul, a.uh, a.sl, a.sh, b.ul, b.uh, b.sl, b.sh, 0] : List Int).getD n 0, fun n => ([false, false, false, false, false, false, false, false, t] : List Bool).getD n false⟩ sR_sum (by kernel_rfl) ?_ rfl (by intro p hp; cases hp) ?_ ?_
  · intro n k hk
    have hlt : n < 9 := by
      rcases Nat.lt_or_ge n 9 with h | h
      · exact h
      · rw [List.getElem?_eq_none h] at hk; cases hk
    rcases (show n = 0 ∨ n = 1 ∨ n = 2 ∨ n = 3 ∨ n = 4 ∨ n = 5 ∨ n = 6 ∨ n = 7 ∨ n = 8 by omega) with rfl | rfl | rfl | rfl | rfl | rfl | rfl | rfl | rfl
    · cases hk; exact ha.1
    · cases hk; exact ha.2.1
    · cases hk; exact ha.2.2.1
    · cases hk; exact ha.2.2.2
    · cases hk; exact hb.1
    · cases hk; exact hb.2.1
    · cases hk; exact hb.2.2.1
    · cases hk; exact hb.2.2.2
    · cases hk
  · intro ρ hag
    have g0 : ρ.i 0 = a.ul := (hag 0 (by decide)).1.symm
    have g1 : ρ.i 1 = a.uh := (hag 1 (by decide)).1.symm
    have g2 : ρ.i 2 = a.sl := (hag 2 (by decide)).1.symm
    have g3 : ρ.i 3 = a.sh := (hag 3 (by decide)).1.symm
    have g4 : ρ.i 4 = b.ul := (hag 4 (by decide)).1.symm
    have g5 : ρ.i 5 = b.uh := (hag 5 (by decide)).1.symm
    have g6 : ρ.i 6 = b.sl := (hag 6 (by decide)).1.symm
    have g7 : ρ.i 7 = b.sh := (hag 7 (by decide)).1.symm
    have g8 : ρ.b 8 = t := (hag 8 (by decide)).2.symm
    show some ([.agg #[.int .u64 (ρ.i 0), .int .u64 (ρ.i 1), .int .i64 (ρ.i 2), .int .i64 (ρ.i 3)], .agg #[.int .u64 (ρ.i 4), .int .u64 (ρ.i 5), .int .i64 (ρ.i 6), .int .i64 (ρ.i 7)], .bool (ρ.b 8)] : List Value) = _
    rw [g0, g1, g2, g3, g4, g5, g6, g7, g8]
  · intro ρ hag
    have g0 : ρ.i 0 = a.ul := (hag 0 (by decide)).1.symm
    have g1 : ρ.i 1 = a.uh := (hag 1 (by decide)).1.symm
    have g2 : ρ.i 2 = a.sl := (hag 2 (by decide)).1.symm
    have g3 : ρ.i 3 = a.sh := (hag 3 (by decide)).1.symm
    have g4 : ρ.i 4 = b.ul := (hag 4 (by decide)).1.symm
    have g5 : ρ.i 5 = b.uh := (hag 5 (by decide)).1.symm
    have g6 : ρ.i 6 = b.sl := (hag 6 (by decide)).1.symm
    have g7 : ρ.i 7 = b.sh := (hag 7 (by decide)).1.symm
    have g8 : ρ.b 8 = t := (hag 8 (by decide)).2.symm
    simp only [sT_sum, Tr.asks, eqs, E.I, E.B, E.L, V.den, C.den, denL, den0, den0L, Option.map_some, Nat.add_zero, Nat.reduceAdd, and_true, Rg.eta, g0, g1, g2, g3, g4, g5, g6, g7, g8]
    simp only [sP_sum, b01, Pi.eta, Pu.eta, Rg.eta, sI_all, sB_all, sI_add64, sB_add64, sI_plus, sB_plus, sI_minus, sB_minus]
    rintro ⟨e9, e10, e11, e12⟩
    (try simp only [e9, e10, e11, e12, Pi.eta, Pu.eta, Rg.eta])
    (try clear e9 e10 e11 e12)
    refine ⟨fun c0 => ?_, fun c0 => ?_⟩
    · skip
      refine ⟨fun c1 => ?_, fun c1 => ?_⟩
      · skip
        rintro ⟨e13, e14⟩
        (try simp only [e13, e14, Pi.eta, Pu.eta, Rg.eta])
        (try clear e13 e14)
        rintro ⟨e15, e16⟩
        (try simp only [e15, e16, Pi.eta, Pu.eta, Rg.eta])
        (try clear e15 e16)
        refine ⟨fun c2 => ?_, fun c2 => ?_⟩
        · skip
          refine ⟨fun c3 => ?_, fun c3 => ?_⟩
          · skip
            all_goals
              refine congrArg some ?_
              (subst c0; exact agg4 (dif_u0 c1).1 (dif_u0 c1).2 (dif_s1 c2 c3).1 (dif_s1 c2 c3).2)
          · skip
            all_goals
              refine congrArg some ?_
              (subst c0; exact agg4 (dif_u0 c1).1 (dif_u0 c1).2 (dif_s0 (.inr c3)).1 (dif_s0 (.inr c3)).2)
        · skip
          all_goals
            refine congrArg some ?_
            (subst c0; exact agg4 (dif_u0 c1).1 (dif_u0 c1).2 (dif_s0 (.inl c2)).1 (dif_s0 (.inl c2)).2)
      · skip
        rintro ⟨e13, e14⟩
        (try simp only [e13, e14, Pi.eta, Pu.eta, Rg.eta])
        (try clear e13 e14)
        rintro ⟨e15, e16⟩
        (try simp only [e15, e16, Pi.eta, Pu.eta, Rg.eta])
        (try clear e15 e16)
        refine ⟨fun c4 => ?_, fun c4 => ?_⟩
        · skip
          refine ⟨fun c5 => ?_, fun c5 => ?_⟩
          · skip
            all_goals
              refine congrArg some ?_
              (subst c0; exact agg4 (dif_u1 c1).1 (dif_u1 c1).2 (dif_s1 c4 c5).1 (dif_s1 c4 c5).2)
          · skip
            all_goals
              refine congrArg some ?_
              (subst c0; exact agg4 (dif_u1 c1).1 (dif_u1 c1).2 (dif_s0 (.inr c5)).1 (dif_s0 (.inr c5)).2)
        · skip
          all_goals
            refine congrArg some ?_
            (subst c0; exact agg4 (dif_u1 c1).1 (dif_u1 c1).2 (dif_s0 (.inl c4)).1 (dif_s0 (.inl c4)).2)
    · skip
      rintro ⟨e13, e14⟩
      (try simp only [e13, e14, Pi.eta, Pu.eta, Rg.eta])
      (try clear e13 e14)
      refine ⟨fun c6 => ?_, fun c6 => ?_⟩
      · skip
        rintro ⟨e15, e16⟩
        (try simp only [e15, e16, Pi.eta, Pu.eta, Rg.eta])
        (try clear e15 e16)
        rintro ⟨e17, e18⟩
        (try simp only [e17, e18, Pi.eta, Pu.eta, Rg.eta])
        (try clear e17 e18)
        refine ⟨fun c7 => ?_, fun c7 => ?_⟩
        · skip
          refine ⟨fun c8 => ?_, fun c8 => ?_⟩
          · skip
            all_goals
              refine congrArg some ?_
              (subst c0; exact agg4 (sum_u1 ha hb c6).1 (sum_u1 ha hb c6).2 (sum_s1 c7 c8).1 (sum_s1 c7 c8).2)
          · skip
            all_goals
              refine congrArg some ?_
              (subst c0; exact agg4 (sum_u1 ha hb c6).1 (sum_u1 ha hb c6).2 (sum_s0 (.inr c8)).1 (sum_s0 (.inr c8)).2)
        · skip
          all_goals
            refine congrArg some ?_
            (subst c0; exact agg4 (sum_u1 ha hb c6).1 (sum_u1 ha hb c6).2 (sum_s0 (.inl c7)).1 (sum_s0 (.inl c7)).2)
      · skip
        rintro ⟨e15, e16⟩
        (try simp only [e15, e16, Pi.eta, Pu.eta, Rg.eta])
        (try clear e15 e16)
        rintro ⟨e17, e18⟩
        (try simp only [e17, e18, Pi.eta, Pu.eta, Rg.eta])
        (try clear e17 e18)
        refine ⟨fun c9 => ?_, fun c9 => ?_⟩
        · skip
          refine ⟨fun c10 => ?_, fun c10 => ?_⟩
          · skip
            all_goals
              refine congrArg some ?_
              (subst c0; exact agg4 (sum_u0 ha hb c6).1 (sum_u0 ha hb c6).2 (sum_s1 c9 c10).1 (sum_s1 c9 c10).2)
          · skip
            all_goals
              refine congrArg some ?_
              (subst c0; exact agg4 (sum_u0 ha hb c6).1 (sum_u0 ha hb c6).2 (sum_s0 (.inr c10)).1 (sum_s0 (.inr c10)).2)
        · skip
          all_goals
            refine congrArg some ?_
            (subst c0; exact agg4 (sum_u0 ha hb c6).1 (sum_u0 ha hb c6).2 (sum_s0 (.inl c9)).1 (sum_s0 (.inl c9)).2)
def sM_sum (key : Nat) : Sm := ⟨71, key, [(true, [.int .u64, .int .u64, .int .i64, .int .i64]), (true, [.int .u64, .int .u64, .int .i64, .int .i64]), (false, [.bool])], [(true, [.int .u64, .int .u64, .int .i64, .int .i64])], false⟩
def sI_sum : Nat → List Int → Int
  | 0, [x0, x1, x2, x3, x4, x5, x6, x7, x8] => (fun (a : Rg) (b : Rg) (t : Bool) => (xsum t a b).ul) ⟨x0, x1, x2, x3⟩ ⟨x4, x5, x6, x7⟩ (x8 == 1)
  | 1, [x0, x1, x2, x3, x4, x5, x6, x7, x8] => (fun (a : Rg) (b : Rg) (t : Bool) => (xsum t a b).uh) ⟨x0, x1, x2, x3⟩ ⟨x4, x5, x6, x7⟩ (x8 == 1)
  | 2, [x0, x1, x2, x3, x4, x5, x6, x7, x8] => (fun (a : Rg) (b : Rg) (t : Bool) => (xsum t a b).sl) ⟨x0, x1, x2, x3⟩ ⟨x4, x5, x6, x7⟩ (x8 == 1)
  | 3, [x0, x1, x2, x3, x4, x5, x6, x7, x8] => (fun (a : Rg) (b : Rg) (t : Bool) => (xsum t a b).sh) ⟨x0, x1, x2, x3⟩ ⟨x4, x5, x6, x7⟩ (x8 == 1)
  | _, _ => 0
def sB_sum : Nat → List Int → Bool
  | _, _ => false
theorem sK_sum {sp : Spec} {key : Nat} (hI : sp.I key = sI_sum) (hB : sp.B key = sB_sum) : SmOk Try.prog sp (sM_sum key) := by
  refine SmOk.of (.inl ⟨run_enter Try.func71 (by kernel_rfl) (by kernel_rfl), fun xs vals h => ?_⟩) (.inr (.inl ⟨_, rfl⟩))
  obtain ⟨_, _, _, p1, h1, rfl⟩ := shA h
  obtain ⟨_, _, _, d1_0, p1_0, rfl⟩ := cksC p1
  obtain ⟨x0, rfl, rfl, gx0⟩ := ckI d1_0
  obtain ⟨_, _, _, d1_1, p1_1, rfl⟩ := cksC p1_0
  obtain ⟨x1, rfl, rfl, gx1⟩ := ckI d1_1
  obtain ⟨_, _, _, d1_2, p1_2, rfl⟩ := cksC p1_1
  obtain ⟨x2, rfl, rfl, gx2⟩ := ckI d1_2
  obtain ⟨_, _, _, d1_3, p1_3, rfl⟩ := cksC p1_2
  obtain ⟨x3, rfl, rfl, gx3⟩ := ckI d1_3
  obtain ⟨rfl, rfl⟩ := cksN p1_3
  obtain ⟨_, _, _, p2, h2, rfl⟩ := shA h1
  obtain ⟨_, _, _, d2_0, p2_0, rfl⟩ := cksC p2
  obtain ⟨x4, rfl, rfl, gx4⟩ := ckI d2_0
  obtain ⟨_, _, _, d2_1, p2_1, rfl⟩ := cksC p2_0
  obtain ⟨x5, rfl, rfl, gx5⟩ := ckI d2_1
  obtain ⟨_, _, _, d2_2, p2_2, rfl⟩ := cksC p2_1
  obtain ⟨x6, rfl, rfl, gx6⟩ := ckI d2_2
  obtain ⟨_, _, _, d2_3, p2_3, rfl⟩ := cksC p2_2
  obtain ⟨x7, rfl, rfl, gx7⟩ := ckI d2_3
  obtain ⟨rfl, rfl⟩ := cksN p2_3
  obtain ⟨_, _, _, d3, h3, rfl⟩ := shO h2
  obtain ⟨x8, rfl, rfl⟩ := ckB d3
  obtain ⟨rfl, rfl⟩ := shN h3
  refine ⟨_, sX_sum ⟨x0, x1, x2, x3⟩ ⟨gx0, gx1, gx2, gx3⟩ ⟨x4, x5, x6, x7⟩ ⟨gx4, gx5, gx6, gx7⟩ (x8 == 1), fun ρ v0 he => ?_⟩
  have he' : ρ.i (v0 + 0) = sp.I key 0 [x0, x1, x2, x3, x4, x5, x6, x7, x8] ∧ ρ.i (v0 + 1) = sp.I key 1 [x0, x1, x2, x3, x4, x5, x6, x7, x8] ∧ ρ.i (v0 + 2) = sp.I key 2 [x0, x1, x2, x3, x4, x5, x6, x7, x8] ∧ ρ.i (v0 + 3) = sp.I key 3 [x0, x1, x2, x3, x4, x5, x6, x7, x8] ∧ True := he
  simp only [hI, hB] at he'
  obtain ⟨e0, e1, e2, e3, -⟩ := he'
  show some (.agg #[.int .u64 (ρ.i (v0 + 0)), .int .u64 (ρ.i (v0 + 1)), .int .i64 (ρ.i (v0 + 2)), .int .i64 (ρ.i (v0 + 3))] : Value) = _
  rw [e0, e1, e2, e3]
  rfl
end Go.Proofs.Ytcngfmhhaleoaaa
