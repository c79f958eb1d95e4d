/- Contracts of Do and Given of package value and of what the laws wake, by the symbolic run. -/
import Derived.Test.YtcngfmhhaleoaaaVaZ
import Derived.Test.YtcngfmhhaleoaaaKnV
import Derived.Test.YtcngfmhhaleoaaaBitsHo
import Derived.Test.YtcngfmhhaleoaaaVlZ
import Derived.Test.YtcngfmhhaleoaaaProg
import Derived.Laws.Externs
set_option linter.unusedVariables false
set_option linter.unusedSimpArgs false
namespace Go.Proofs.Ytcngfmhhaleoaaa
open Go.RowKit Go.ChangeShapes Go.WideShapes

def tys_VaC : List (Nat × TI) := [(2, ⟨false, 1, [.int .i64 (.lit 0)], [], none, some .i64, false, false⟩),
  (22, ⟨false, 1, [.int .u64 (.lit 0)], [], none, some .u64, false, false⟩),
  (24, ⟨true, 4, [.int .u64 (.lit 0), .int .u64 (.lit 0), .int .i64 (.lit 0), .int .i64 (.lit 0)], [(0, 22), (1, 22), (2, 2), (3, 2)], none, none, false, false⟩),
  (33, ⟨false, 1, [.int .i8 (.lit 0)], [], none, some .i8, false, false⟩),
  (42, ⟨false, 1, [.int .i64 (.lit 0)], [], none, some .i64, false, false⟩),
  (50, ⟨true, 2, [.int .u64 (.lit 0), .int .u64 (.lit 0)], [(0, 22), (1, 22)], none, none, false, false⟩),
  (52, ⟨true, 6, [.int .u64 (.lit 0), .int .u64 (.lit 0), .int .i64 (.lit 0), .int .i64 (.lit 0), .int .u64 (.lit 0), .int .u64 (.lit 0)], [(0, 24), (4, 50)], none, none, false, false⟩)]
set_option maxRecDepth 100000 in
theorem tysck_VaC : (tys_VaC.all fun p => ckTI Try.prog p.1 p.2) = true := by kernel_rfl
theorem tysne_VaC : (tys_VaC.all fun p => !p.2.eqok) = true := by kernel_rfl
theorem tysok_VaC : ∀ t i, (t, i) ∈ tys_VaC → TIok Try.prog t i := by
  intro t i h
  have h1 := all_at (f := fun _ i => !i.eqok) tysne_VaC h
  exact TIok_of (all_at (f := ckTI Try.prog) tysck_VaC h) (fun he => by simp [he] at h1) (fun he => by simp [he] at h1)
theorem sX_kdo (op : Int) (hop : inK .i8 op = true) (l : Int) (hl : inK .i8 l = true) (a : Kn) (ha : Kn.ok a) (b : Kn) (hb : Kn.ok b) : (∀ w, Calls Try.prog 86 #[.int .i8 op, .int .i8 l, .agg #[.int .u64 a.v, .int .u64 a.m], .agg #[.int .u64 b.v, .int .u64 b.m]] w fun e w' => e = .returned (.agg #[.int .u64 (kdo op l a b).v, .int .u64 (kdo op l a b).m]) ∧ Ext w w') ∧ valIn (.agg #[.int .u64 (kdo op l a b).v, .int .u64 (kdo op l a b).m]) = true := by
  have wa := Kn.wf_of ha
  have wb := Kn.wf_of hb
  have hz := wf_kdo wa wb op l
  have h1 := u64_inK hz.1
  have h2 := u64_inK hz.2
  exact ⟨fun W => kdo_any op l a b W W (Ext.refl W) wa wb, by simp [valIn, partIn, cellIn, h1, h2]⟩
def sM_kdo (key : Nat) : Sm := ⟨86, key, [(false, [.int .i8]), (false, [.int .i8]), (true, [.int .u64, .int .u64]), (true, [.int .u64, .int .u64])], [(true, [.int .u64, .int .u64])], false⟩
def sI_kdo : Nat → List Int → Int
  | 0, [x0, x1, x2, x3, x4, x5] => (fun (op : Int) (l : Int) (a : Kn) (b : Kn) => (kdo op l a b).v) x0 x1 ⟨x2, x3⟩ ⟨x4, x5⟩
  | 1, [x0, x1, x2, x3, x4, x5] => (fun (op : Int) (l : Int) (a : Kn) (b : Kn) => (kdo op l a b).m) x0 x1 ⟨x2, x3⟩ ⟨x4, x5⟩
  | _, _ => 0
def sB_kdo : Nat → List Int → Bool
  | _, _ => false
theorem sK_kdo {sp : Spec} {key : Nat} (hI : sp.I key = sI_kdo) (hB : sp.B key = sB_kdo) : SmOk Try.prog sp (sM_kdo key) := by
  refine SmOk.of (.inl ⟨run_enter Try.func86 (by kernel_rfl) (by kernel_rfl), fun xs vals h => ?_⟩) (.inr (.inl ⟨_, rfl⟩))
  obtain ⟨_, _, _, d1, h1, rfl⟩ := shO h
  obtain ⟨x0, rfl, rfl, gx0⟩ := ckI d1
  obtain ⟨_, _, _, d2, h2, rfl⟩ := shO h1
  obtain ⟨x1, rfl, rfl, gx1⟩ := ckI d2
  obtain ⟨_, _, _, p3, h3, rfl⟩ := shA h2
  obtain ⟨_, _, _, d3_0, p3_0, rfl⟩ := cksC p3
  obtain ⟨x2, rfl, rfl, gx2⟩ := ckI d3_0
  obtain ⟨_, _, _, d3_1, p3_1, rfl⟩ := cksC p3_0
  obtain ⟨x3, rfl, rfl, gx3⟩ := ckI d3_1
  obtain ⟨rfl, rfl⟩ := cksN p3_1
  obtain ⟨_, _, _, p4, h4, rfl⟩ := shA h3
  obtain ⟨_, _, _, d4_0, p4_0, rfl⟩ := cksC p4
  obtain ⟨x4, rfl, rfl, gx4⟩ := ckI d4_0
  obtain ⟨_, _, _, d4_1, p4_1, rfl⟩ := cksC p4_0
  obtain ⟨x5, rfl, rfl, gx5⟩ := ckI d4_1
  obtain ⟨rfl, rfl⟩ := cksN p4_1
  obtain ⟨rfl, rfl⟩ := shN h4
  refine ⟨_, sX_kdo x0 gx0 x1 gx1 ⟨x2, x3⟩ ⟨gx2, gx3⟩ ⟨x4, x5⟩ ⟨gx4, gx5⟩, fun ρ v0 he => ?_⟩
  have he' : ρ.i (v0 + 0) = sp.I key 0 [x0, x1, x2, x3, x4, x5] ∧ ρ.i (v0 + 1) = sp.I key 1 [x0, x1, x2, x3, x4, x5] ∧ True := he
  simp only [hI, hB] at he'
  obtain ⟨e0, e1, -⟩ := he'
  show some (.agg #[.int .u64 (ρ.i (v0 + 0)), .int .u64 (ρ.i (v0 + 1))] : Value) = _
  rw [e0, e1]
  rfl
theorem sX_bits0 (op : Int) (hop : inK .i8 op = true) (l : Int) (hl : inK .i8 l = true)   : (∀ w, Calls Try.prog 38 #[.int .i8 op, .int .i8 l, .int .u64 0, .int .u64 0] w fun e w' => e = .returned (.tuple #[.int .u64 (if okop op l = true then zdo op l 0 0 else 0), .int .i64 (if okop op l = true then 0 else 2)]) ∧ Ext w w') ∧ valIn (.tuple #[.int .u64 (if okop op l = true then zdo op l 0 0 else 0), .int .i64 (if okop op l = true then 0 else 2)]) = true := by
  exact sX_bits op hop l hl 0 (by decide) 0 (by decide)
def sM_bits0 (key : Nat) : Sm := ⟨38, key, [(false, [.int .i8]), (false, [.int .i8]), (false, [.lit .u64 0]), (false, [.lit .u64 0])], [(false, [.int .u64]), (false, [.int .i64])], true⟩
def sI_bits0 : Nat → List Int → Int
  | 0, [x0, x1] => (fun (op : Int) (l : Int) => if okop op l = true then zdo op l 0 0 else 0) x0 x1
  | 1, [x0, x1] => (fun (op : Int) (l : Int) => if okop op l = true then 0 else 2) x0 x1
  | _, _ => 0
def sB_bits0 : Nat → List Int → Bool
  | _, _ => false
theorem sK_bits0 {sp : Spec} {key : Nat} (hI : sp.I key = sI_bits0) (hB : sp.B key = sB_bits0) : SmOk Try.prog sp (sM_bits0 key) := by
  refine SmOk.of (.inl ⟨run_enter Try.func38 (by kernel_rfl) (by kernel_rfl), fun xs vals h => ?_⟩) (.inl rfl)
  obtain ⟨_, _, _, d1, h1, rfl⟩ := shO h
  obtain ⟨x0, rfl, rfl, gx0⟩ := ckI d1
  obtain ⟨_, _, _, d2, h2, rfl⟩ := shO h1
  obtain ⟨x1, rfl, rfl, gx1⟩ := ckI d2
  obtain ⟨_, _, _, d3, h3, rfl⟩ := shO h2
  obtain ⟨rfl, rfl⟩ := ckT d3
  obtain ⟨_, _, _, d4, h4, rfl⟩ := shO h3
  obtain ⟨rfl, rfl⟩ := ckT d4
  obtain ⟨rfl, rfl⟩ := shN h4
  refine ⟨_, sX_bits0 x0 gx0 x1 gx1, fun ρ v0 he => ?_⟩
  have he' : ρ.i (v0 + 0) = sp.I key 0 [x0, x1] ∧ ρ.i (v0 + 1) = sp.I key 1 [x0, x1] ∧ True := he
  simp only [hI, hB] at he'
  obtain ⟨e0, e1, -⟩ := he'
  show some (.tuple #[.int .u64 (ρ.i (v0 + 0)), .int .i64 (ρ.i (v0 + 1))] : Value) = _
  rw [e0, e1]
  rfl
def sT_vdo : Tr :=
(.call 0 [.int .u64, .int .i64] (.cons (.var 0) (.cons (.var 1) .nil)) 14
 (.br (.eq (.var 15) (.lit 0))
 (.call 1 [.bool] (.cons (.var 2) (.cons (.var 3) (.cons (.var 4) (.cons (.var 5) (.cons (.var 6) (.cons (.var 7) .nil)))))) 16
  (.br (.bvar 16)
  (.call 1 [.bool] (.cons (.var 8) (.cons (.var 9) (.cons (.var 10) (.cons (.var 11) (.cons (.var 12) (.cons (.var 13) .nil)))))) 17
   (.br (.bvar 17)
   (.br (.eq (.var 1) (.lit 64))
    (.call 3 [.int .u64, .int .u64, .int .i64, .int .i64] (.cons (.var 0) (.cons (.var 2) (.cons (.var 3) (.cons (.var 4) (.cons (.var 5) (.cons (.var 8) (.cons (.var 9) (.cons (.var 10) (.cons (.var 11) .nil))))))))) 18
     (.call 4 [.int .u64, .int .u64] (.cons (.var 0) (.cons (.var 1) (.cons (.var 6) (.cons (.var 7) (.cons (.var 12) (.cons (.var 13) .nil)))))) 22
     (.call 5 [.int .u64, .int .u64, .int .i64, .int .i64, .int .u64, .int .u64] (.cons (.var 18) (.cons (.var 19) (.cons (.var 20) (.cons (.var 21) (.cons (.var 22) (.cons (.var 23) .nil)))))) 24
     (.leaf (.agg [.int .u64 (.var 24), .int .u64 (.var 25), .int .i64 (.var 26), .int .i64 (.var 27), .int .u64 (.var 28), .int .u64 (.var 29)])))))
    (.call 6 [.int .u64, .int .u64, .int .i64, .int .i64, .int .u64, .int .u64] (.cons (.var 2) (.cons (.var 3) (.cons (.var 4) (.cons (.var 5) (.cons (.var 6) (.cons (.var 7) .nil)))))) 18
     (.call 6 [.int .u64, .int .u64, .int .i64, .int .i64, .int .u64, .int .u64] (.cons (.var 8) (.cons (.var 9) (.cons (.var 10) (.cons (.var 11) (.cons (.var 12) (.cons (.var 13) .nil)))))) 24
     (.call 7 [.int .u64, .int .u64, .int .i64, .int .i64] (.cons (.var 0) (.cons (.var 18) (.cons (.var 19) (.cons (.var 20) (.cons (.var 21) (.cons (.var 22) (.cons (.var 23) (.cons (.var 24) (.cons (.var 25) (.cons (.var 26) (.cons (.var 27) (.cons (.var 28) (.cons (.var 29) .nil))))))))))))) 30
     (.call 4 [.int .u64, .int .u64] (.cons (.var 0) (.cons (.var 1) (.cons (.var 22) (.cons (.var 23) (.cons (.var 28) (.cons (.var 29) .nil)))))) 34
     (.call 8 [.int .u64, .int .u64, .int .i64, .int .i64, .int .u64, .int .u64, .bool] (.cons (.var 30) (.cons (.var 31) (.cons (.var 32) (.cons (.var 33) (.cons (.var 34) (.cons (.var 35) .nil)))))) 36
     (.br (.bvar 42)
     (.leaf (.agg [.int .u64 (.var 36), .int .u64 (.var 37), .int .i64 (.var 38), .int .i64 (.var 39), .int .u64 (.var 40), .int .u64 (.var 41)]))
     (.call 9 [.int .u64, .int .u64, .int .i64, .int .i64, .int .u64, .int .u64] .nil 43
      (.leaf (.agg [.int .u64 (.var 43), .int .u64 (.var 44), .int .i64 (.var 45), .int .i64 (.var 46), .int .u64 (.var 47), .int .u64 (.var 48)]))))))))))
   (.call 2 [.int .u64, .int .u64, .int .i64, .int .i64, .int .u64, .int .u64] .nil 18
    (.leaf (.agg [.int .u64 (.var 18), .int .u64 (.var 19), .int .i64 (.var 20), .int .i64 (.var 21), .int .u64 (.var 22), .int .u64 (.var 23)])))))
  (.call 2 [.int .u64, .int .u64, .int .i64, .int .i64, .int .u64, .int .u64] .nil 17
   (.leaf (.agg [.int .u64 (.var 17), .int .u64 (.var 18), .int .i64 (.var 19), .int .i64 (.var 20), .int .u64 (.var 21), .int .u64 (.var 22)])))))
 (.call 2 [.int .u64, .int .u64, .int .i64, .int .i64, .int .u64, .int .u64] .nil 16
  (.leaf (.agg [.int .u64 (.var 16), .int .u64 (.var 17), .int .i64 (.var 18), .int .i64 (.var 19), .int .u64 (.var 20), .int .u64 (.var 21)])))))
def sP_vdo : Spec := ⟨fun k => match k with | 0 => sI_bits0 | 1 => sI_vmay | 2 => sI_vall | 3 => sI_do | 4 => sI_kdo | 5 => sI_vnard | 6 => sI_vlow | 7 => sI_vhalf | 8 => sI_vnar | 9 => sI_vby4 | _ => fun _ _ => 0, fun k => match k with | 0 => sB_bits0 | 1 => sB_vmay | 2 => sB_vall | 3 => sB_do | 4 => sB_kdo | 5 => sB_vnard | 6 => sB_vlow | 7 => sB_vhalf | 8 => sB_vnar | 9 => sB_vby4 | _ => fun _ _ => false⟩
set_option maxRecDepth 100000 in
theorem sR_vdo : funK ⟨tys_VaC, [sM_bits0 0, sM_vmay 1, sM_vall 2, sM_do 3, sM_kdo 4, sM_vnard 5, sM_vlow 6, sM_vhalf 7, sM_vnar 8, sM_vby4 9]⟩ 200 Try.f39 [.one (.int .i8 (.var 0)), .one (.int .i8 (.var 1)), .agg [.int .u64 (.var 2), .int .u64 (.var 3), .int .i64 (.var 4), .int .i64 (.var 5), .int .u64 (.var 6), .int .u64 (.var 7)], .agg [.int .u64 (.var 8), .int .u64 (.var 9), .int .i64 (.var 10), .int .i64 (.var 11), .int .u64 (.var 12), .int .u64 (.var 13)]] ⟨[], [], [some .i8, some .i8, some .u64, some .u64, some .i64, some .i64, some .u64, some .u64, some .u64, some .u64, some .i64, some .i64, some .u64, some .u64]⟩ = sT_vdo := by kernel_rfl
set_option maxRecDepth 100000 in
set_option maxHeartbeats 8000000 in
theorem sX_vdo (op : Int) (hop : inK .i8 op = true) (l : Int) (hl : inK .i8 l = true) (a : Sc) (ha : Sc.ok a) (b : Sc) (hb : Sc.ok b) : (∀ w, Calls Try.prog 39 #[.int .i8 op, .int .i8 l, .agg #[.int .u64 a.ul, .int .u64 a.uh, .int .i64 a.sl, .int .i64 a.sh, .int .u64 a.v, .int .u64 a.m], .agg #[.int .u64 b.ul, .int .u64 b.uh, .int .i64 b.sl, .int .i64 b.sh, .int .u64 b.v, .int .u64 b.m]] w fun e w' => e = .returned (.agg #[.int .u64 (vdo op l a b).ul, .int .u64 (vdo op l a b).uh, .int .i64 (vdo op l a b).sl, .int .i64 (vdo op l a b).sh, .int .u64 (vdo op l a b).v, .int .u64 (vdo op l a b).m]) ∧ Ext w w') ∧ valIn (.agg #[.int .u64 (vdo op l a b).ul, .int .u64 (vdo op l a b).uh, .int .i64 (vdo op l a b).sl, .int .i64 (vdo op l a b).sh, .int .u64 (vdo op l a b).v, .int .u64 (vdo op l a b).m]) = true := by
  refine fun_calls (cx := ⟨tys_VaC, [sM_bits0 0, sM_vmay 1, sM_vall 2, sM_do 3, sM_kdo 4, sM_vnard 5, sM_vlow 6, sM_vhalf 7, sM_vnar 8, sM_vby4 9]⟩) (sp := sP_vdo) (t := sT_vdo) (by kernel_rfl) tysok_VaC (List.forall_mem_cons.2 ⟨sK_bits0 rfl rfl, List.forall_mem_cons.2 ⟨sK_vmay rfl rfl, List.forall_mem_cons.2 ⟨sK_vall rfl rfl, List.forall_mem_cons.2 ⟨sK_do rfl rfl, List.forall_mem_cons.2 ⟨sK_kdo rfl rfl, List.forall_mem_cons.2 ⟨sK_vnard rfl rfl, List.forall_mem_cons.2 ⟨sK_vlow rfl rfl, List.forall_mem_cons.2 ⟨sK_vhalf rfl rfl, List.forall_mem_cons.2 ⟨sK_vnar rfl rfl, List.forall_mem_cons.2 ⟨sK_vby4 rfl rfl, fun _ h => (by cases h)⟩⟩⟩⟩⟩⟩⟩⟩⟩⟩) (keys_of (by kernel_rfl)) Try.func39 ⟨fun n => ([op, l, a.ul, a.uh, a.sl, a.sh, a.v, a.m, b.ul, b.uh, b.sl, b.sh, b.v, b.m] : List Int).getD n 0, fun n => ([false, false, false, false, false, false, false, false, false, false, false, false, false, false] : List Bool).getD n false⟩ sR_vdo (by kernel_rfl) ?_ rfl (by intro p hp; cases hp) ?_ ?_
  · intro n k hk
    have hlt : n < 14 := by
      rcases Nat.lt_or_ge n 14 with h | h
      · exact h
      · rw [List.getElem?_eq_none h] at hk; cases hk
    rcases (show n = 0 ∨ n = 1 ∨ n = 2 ∨ n = 3 ∨ n = 4 ∨ n = 5 ∨ n = 6 ∨ n = 7 ∨ n = 8 ∨ n = 9 ∨ n = 10 ∨ n = 11 ∨ n = 12 ∨ n = 13 by omega) with rfl | rfl | rfl | rfl | rfl | rfl | rfl | rfl | rfl | rfl | rfl | rfl | rfl | rfl
    · cases hk; exact hop
    · cases hk; exact hl
    · cases hk; exact ha.1
    · cases hk; exact ha.2.1
    · cases hk; exact ha.2.2.1
    · cases hk; exact ha.2.2.2.1
    · cases hk; exact ha.2.2.2.2.1
    · cases hk; exact ha.2.2.2.2.2
    · cases hk; exact hb.1
    · cases hk; exact hb.2.1
    · cases hk; exact hb.2.2.1
    · cases hk; exact hb.2.2.2.1
    · cases hk; exact hb.2.2.2.2.1
    · cases hk; exact hb.2.2.2.2.2
  · intro ρ hag
    have g0 : ρ.i 0 = op := (hag 0 (by decide)).1.symm
    have g1 : ρ.i 1 = l := (hag 1 (by decide)).1.symm
    have g2 : ρ.i 2 = a.ul := (hag 2 (by decide)).1.symm
    have g3 : ρ.i 3 = a.uh := (hag 3 (by decide)).1.symm
    have g4 : ρ.i 4 = a.sl := (hag 4 (by decide)).1.symm
    have g5 : ρ.i 5 = a.sh := (hag 5 (by decide)).1.symm
    have g6 : ρ.i 6 = a.v := (hag 6 (by decide)).1.symm
    have g7 : ρ.i 7 = a.m := (hag 7 (by decide)).1.symm
    have g8 : ρ.i 8 = b.ul := (hag 8 (by decide)).1.symm
    have g9 : ρ.i 9 = b.uh := (hag 9 (by decide)).1.symm
    have g10 : ρ.i 10 = b.sl := (hag 10 (by decide)).1.symm
    have g11 : ρ.i 11 = b.sh := (hag 11 (by decide)).1.symm
    have g12 : ρ.i 12 = b.v := (hag 12 (by decide)).1.symm
    have g13 : ρ.i 13 = b.m := (hag 13 (by decide)).1.symm
    show some ([.int .i8 (ρ.i 0), .int .i8 (ρ.i 1), .agg #[.int .u64 (ρ.i 2), .int .u64 (ρ.i 3), .int .i64 (ρ.i 4), .int .i64 (ρ.i 5), .int .u64 (ρ.i 6), .int .u64 (ρ.i 7)], .agg #[.int .u64 (ρ.i 8), .int .u64 (ρ.i 9), .int .i64 (ρ.i 10), .int .i64 (ρ.i 11), .int .u64 (ρ.i 12), .int .u64 (ρ.i 13)]] : List Value) = _
    rw [g0, g1, g2, g3, g4, g5, g6, g7, g8, g9, g10, g11, g12, g13]
  · intro ρ hag
    have g0 : ρ.i 0 = op := (hag 0 (by decide)).1.symm
    have g1 : ρ.i 1 = l := (hag 1 (by decide)).1.symm
    have g2 : ρ.i 2 = a.ul := (hag 2 (by decide)).1.symm
    have g3 : ρ.i 3 = a.uh := (hag 3 (by decide)).1.symm
    have g4 : ρ.i 4 = a.sl := (hag 4 (by decide)).1.symm
    have g5 : ρ.i 5 = a.sh := (hag 5 (by decide)).1.symm
    have g6 : ρ.i 6 = a.v := (hag 6 (by decide)).1.symm
    have g7 : ρ.i 7 = a.m := (hag 7 (by decide)).1.symm
    have g8 : ρ.i 8 = b.ul := (hag 8 (by decide)).1.symm
    have g9 : ρ.i 9 = b.uh := (hag 9 (by decide)).1.symm
    have g10 : ρ.i 10 = b.sl := (hag 10 (by decide)).1.symm
    have g11 : ρ.i 11 = b.sh := (hag 11 (by decide)).1.symm
    have g12 : ρ.i 12 = b.v := (hag 12 (by decide)).1.symm
    have g13 : ρ.i 13 = b.m := (hag 13 (by decide)).1.symm
    simp only [sT_vdo, Tr.asks, eqs, E.I, E.B, E.L, V.den, C.den, denL, den0, den0L, Option.map_some, Nat.add_zero, Nat.reduceAdd, and_true, Sc.eta, Sc.eta_r, Sc.eta_k, Sc.eta_2, g0, g1, g2, g3, g4, g5, g6, g7, g8, g9, g10, g11, g12, g13]
    simp only [sP_vdo, b01, Kn.eta, Pi.eta, Pu.eta, Rg.eta, Sc.eta, Sc.eta_r, Sc.eta_k, Sc.eta_2, sI_bits0, sB_bits0, sI_vmay, sB_vmay, sI_vall, sB_vall, sI_do, sB_do, sI_kdo, sB_kdo, sI_vnard, sB_vnard, sI_vlow, sB_vlow, sI_vhalf, sB_vhalf, sI_vnar, sB_vnar, sI_vby4, sB_vby4]
    rintro ⟨e14, e15⟩
    (try simp only [e14, e15, Kn.eta, Pi.eta, Pu.eta, Rg.eta, Sc.eta, Sc.eta_r, Sc.eta_k, Sc.eta_2])
    (try clear e14 e15)
    refine ⟨fun c0 => ?_, fun c0 => ?_⟩
    · skip
      intro e16
      (try simp only [e16, Kn.eta, Pi.eta, Pu.eta, Rg.eta, Sc.eta, Sc.eta_r, Sc.eta_k, Sc.eta_2])
      (try clear e16)
      refine ⟨fun c1 => ?_, fun c1 => ?_⟩
      · skip
        intro e17
        (try simp only [e17, Kn.eta, Pi.eta, Pu.eta, Rg.eta, Sc.eta, Sc.eta_r, Sc.eta_k, Sc.eta_2])
        (try clear e17)
        refine ⟨fun c2 => ?_, fun c2 => ?_⟩
        · skip
          refine ⟨fun c3 => ?_, fun c3 => ?_⟩
          · skip
            rintro ⟨e18, e19, e20, e21⟩
            (try simp only [e18, e19, e20, e21, Kn.eta, Pi.eta, Pu.eta, Rg.eta, Sc.eta, Sc.eta_r, Sc.eta_k, Sc.eta_2])
            (try clear e18 e19 e20 e21)
            rintro ⟨e22, e23⟩
            (try simp only [e22, e23, Kn.eta, Pi.eta, Pu.eta, Rg.eta, Sc.eta, Sc.eta_r, Sc.eta_k, Sc.eta_2])
            (try clear e22 e23)
            rintro ⟨e24, e25, e26, e27, e28, e29⟩
            (try simp only [e24, e25, e26, e27, e28, e29, Kn.eta, Pi.eta, Pu.eta, Rg.eta, Sc.eta, Sc.eta_r, Sc.eta_k, Sc.eta_2])
            (try clear e24 e25 e26 e27 e28 e29)
            all_goals
              refine congrArg some ?_
              (obtain rfl := eqz c3; have hk := ok_of c0; rw [show vdo op 64 a b = vnar (sc (bdo op a.r b.r) (kdo op 64 a.k b.k)) from by unfold vdo; simp [hk, c1, c2]]; try rfl)
          · skip
            rintro ⟨e18, e19, e20, e21, e22, e23⟩
            (try simp only [e18, e19, e20, e21, e22, e23, Kn.eta, Pi.eta, Pu.eta, Rg.eta, Sc.eta, Sc.eta_r, Sc.eta_k, Sc.eta_2])
            (try clear e18 e19 e20 e21 e22 e23)
            rintro ⟨e24, e25, e26, e27, e28, e29⟩
            (try simp only [e24, e25, e26, e27, e28, e29, Kn.eta, Pi.eta, Pu.eta, Rg.eta, Sc.eta, Sc.eta_r, Sc.eta_k, Sc.eta_2])
            (try clear e24 e25 e26 e27 e28 e29)
            rintro ⟨e30, e31, e32, e33⟩
            (try simp only [e30, e31, e32, e33, Kn.eta, Pi.eta, Pu.eta, Rg.eta, Sc.eta, Sc.eta_r, Sc.eta_k, Sc.eta_2])
            (try clear e30 e31 e32 e33)
            rintro ⟨e34, e35⟩
            (try simp only [e34, e35, Kn.eta, Pi.eta, Pu.eta, Rg.eta, Sc.eta, Sc.eta_r, Sc.eta_k, Sc.eta_2])
            (try clear e34 e35)
            rintro ⟨e36, e37, e38, e39, e40, e41, e42⟩
            (try simp only [e36, e37, e38, e39, e40, e41, e42, Kn.eta, Pi.eta, Pu.eta, Rg.eta, Sc.eta, Sc.eta_r, Sc.eta_k, Sc.eta_2])
            (try clear e36 e37 e38 e39 e40 e41 e42)
            refine ⟨fun c4 => ?_, fun c4 => ?_⟩
            · skip
              all_goals
                refine congrArg some ?_
                (have n := nez c3; have hk := ok_of c0; have c5 : vnok (vhf op l a b) = true := c4; rw [show vdo op l a b = vnar (vhf op l a b) from by unfold vdo; simp [hk, c1, c2, n, c5]]; try rfl)
            · skip
              rintro ⟨e43, e44, e45, e46, e47, e48⟩
              (try simp only [e43, e44, e45, e46, e47, e48, Kn.eta, Pi.eta, Pu.eta, Rg.eta, Sc.eta, Sc.eta_r, Sc.eta_k, Sc.eta_2])
              (try clear e43 e44 e45 e46 e47 e48)
              all_goals
                refine congrArg some ?_
                (have n := nez c3; have hk := ok_of c0; have c5 : vnok (vhf op l a b) = false := c4; rw [show vdo op l a b = vbel 4294967295 from by unfold vdo; simp [hk, c1, c2, n, c5]]; try rfl)
        · skip
          rintro ⟨e18, e19, e20, e21, e22, e23⟩
          (try simp only [e18, e19, e20, e21, e22, e23, Kn.eta, Pi.eta, Pu.eta, Rg.eta, Sc.eta, Sc.eta_r, Sc.eta_k, Sc.eta_2])
          (try clear e18 e19 e20 e21 e22 e23)
          all_goals
            refine congrArg some ?_
            (rw [show vdo op l a b = vall from by unfold vdo; simp [c2]]; try rfl)
      · skip
        rintro ⟨e17, e18, e19, e20, e21, e22⟩
        (try simp only [e17, e18, e19, e20, e21, e22, Kn.eta, Pi.eta, Pu.eta, Rg.eta, Sc.eta, Sc.eta_r, Sc.eta_k, Sc.eta_2])
        (try clear e17 e18 e19 e20 e21 e22)
        all_goals
          refine congrArg some ?_
          (rw [show vdo op l a b = vall from by unfold vdo; simp [c1]]; try rfl)
    · skip
      rintro ⟨e16, e17, e18, e19, e20, e21⟩
      (try simp only [e16, e17, e18, e19, e20, e21, Kn.eta, Pi.eta, Pu.eta, Rg.eta, Sc.eta, Sc.eta_r, Sc.eta_k, Sc.eta_2])
      (try clear e16 e17 e18 e19 e20 e21)
      all_goals
        refine congrArg some ?_
        (have hk := nok_of c0; rw [show vdo op l a b = vall from by unfold vdo; simp [hk]]; try rfl)
def sM_vdo (key : Nat) : Sm := ⟨39, key, [(false, [.int .i8]), (false, [.int .i8]), (true, [.int .u64, .int .u64, .int .i64, .int .i64, .int .u64, .int .u64]), (true, [.int .u64, .int .u64, .int .i64, .int .i64, .int .u64, .int .u64])], [(true, [.int .u64, .int .u64, .int .i64, .int .i64, .int .u64, .int .u64])], false⟩
def sI_vdo : Nat → List Int → Int
  | 0, [x0, x1, x2, x3, x4, x5, x6, x7, x8, x9, x10, x11, x12, x13] => (fun (op : Int) (l : Int) (a : Sc) (b : Sc) => (vdo op l a b).ul) x0 x1 ⟨x2, x3, x4, x5, x6, x7⟩ ⟨x8, x9, x10, x11, x12, x13⟩
  | 1, [x0, x1, x2, x3, x4, x5, x6, x7, x8, x9, x10, x11, x12, x13] => (fun (op : Int) (l : Int) (a : Sc) (b : Sc) => (vdo op l a b).uh) x0 x1 ⟨x2, x3, x4, x5, x6, x7⟩ ⟨x8, x9, x10, x11, x12, x13⟩
  | 2, [x0, x1, x2, x3, x4, x5, x6, x7, x8, x9, x10, x11, x12, x13] => (fun (op : Int) (l : Int) (a : Sc) (b : Sc) => (vdo op l a b).sl) x0 x1 ⟨x2, x3, x4, x5, x6, x7⟩ ⟨x8, x9, x10, x11, x12, x13⟩
  | 3, [x0, x1, x2, x3, x4, x5, x6, x7, x8, x9, x10, x11, x12, x13] => (fun (op : Int) (l : Int) (a : Sc) (b : Sc) => (vdo op l a b).sh) x0 x1 ⟨x2, x3, x4, x5, x6, x7⟩ ⟨x8, x9, x10, x11, x12, x13⟩
  | 4, [x0, x1, x2, x3, x4, x5, x6, x7, x8, x9, x10, x11, x12, x13] => (fun (op : Int) (l : Int) (a : Sc) (b : Sc) => (vdo op l a b).v) x0 x1 ⟨x2, x3, x4, x5, x6, x7⟩ ⟨x8, x9, x10, x11, x12, x13⟩
  | 5, [x0, x1, x2, x3, x4, x5, x6, x7, x8, x9, x10, x11, x12, x13] => (fun (op : Int) (l : Int) (a : Sc) (b : Sc) => (vdo op l a b).m) x0 x1 ⟨x2, x3, x4, x5, x6, x7⟩ ⟨x8, x9, x10, x11, x12, x13⟩
  | _, _ => 0
def sB_vdo : Nat → List Int → Bool
  | _, _ => false
theorem sK_vdo {sp : Spec} {key : Nat} (hI : sp.I key = sI_vdo) (hB : sp.B key = sB_vdo) : SmOk Try.prog sp (sM_vdo key) := by
  refine SmOk.of (.inl ⟨run_enter Try.func39 (by kernel_rfl) (by kernel_rfl), fun xs vals h => ?_⟩) (.inr (.inl ⟨_, rfl⟩))
  obtain ⟨_, _, _, d1, h1, rfl⟩ := shO h
  obtain ⟨x0, rfl, rfl, gx0⟩ := ckI d1
  obtain ⟨_, _, _, d2, h2, rfl⟩ := shO h1
  obtain ⟨x1, rfl, rfl, gx1⟩ := ckI d2
  obtain ⟨_, _, _, p3, h3, rfl⟩ := shA h2
  obtain ⟨_, _, _, d3_0, p3_0, rfl⟩ := cksC p3
  obtain ⟨x2, rfl, rfl, gx2⟩ := ckI d3_0
  obtain ⟨_, _, _, d3_1, p3_1, rfl⟩ := cksC p3_0
  obtain ⟨x3, rfl, rfl, gx3⟩ := ckI d3_1
  obtain ⟨_, _, _, d3_2, p3_2, rfl⟩ := cksC p3_1
  obtain ⟨x4, rfl, rfl, gx4⟩ := ckI d3_2
  obtain ⟨_, _, _, d3_3, p3_3, rfl⟩ := cksC p3_2
  obtain ⟨x5, rfl, rfl, gx5⟩ := ckI d3_3
  obtain ⟨_, _, _, d3_4, p3_4, rfl⟩ := cksC p3_3
  obtain ⟨x6, rfl, rfl, gx6⟩ := ckI d3_4
  obtain ⟨_, _, _, d3_5, p3_5, rfl⟩ := cksC p3_4
  obtain ⟨x7, rfl, rfl, gx7⟩ := ckI d3_5
  obtain ⟨rfl, rfl⟩ := cksN p3_5
  obtain ⟨_, _, _, p4, h4, rfl⟩ := shA h3
  obtain ⟨_, _, _, d4_0, p4_0, rfl⟩ := cksC p4
  obtain ⟨x8, rfl, rfl, gx8⟩ := ckI d4_0
  obtain ⟨_, _, _, d4_1, p4_1, rfl⟩ := cksC p4_0
  obtain ⟨x9, rfl, rfl, gx9⟩ := ckI d4_1
  obtain ⟨_, _, _, d4_2, p4_2, rfl⟩ := cksC p4_1
  obtain ⟨x10, rfl, rfl, gx10⟩ := ckI d4_2
  obtain ⟨_, _, _, d4_3, p4_3, rfl⟩ := cksC p4_2
  obtain ⟨x11, rfl, rfl, gx11⟩ := ckI d4_3
  obtain ⟨_, _, _, d4_4, p4_4, rfl⟩ := cksC p4_3
  obtain ⟨x12, rfl, rfl, gx12⟩ := ckI d4_4
  obtain ⟨_, _, _, d4_5, p4_5, rfl⟩ := cksC p4_4
  obtain ⟨x13, rfl, rfl, gx13⟩ := ckI d4_5
  obtain ⟨rfl, rfl⟩ := cksN p4_5
  obtain ⟨rfl, rfl⟩ := shN h4
  refine ⟨_, sX_vdo x0 gx0 x1 gx1 ⟨x2, x3, x4, x5, x6, x7⟩ ⟨gx2, gx3, gx4, gx5, gx6, gx7⟩ ⟨x8, x9, x10, x11, x12, x13⟩ ⟨gx8, gx9, gx10, gx11, gx12, gx13⟩, fun ρ v0 he => ?_⟩
  have he' : ρ.i (v0 + 0) = sp.I key 0 [x0, x1, x2, x3, x4, x5, x6, x7, x8, x9, x10, x11, x12, x13] ∧ ρ.i (v0 + 1) = sp.I key 1 [x0, x1, x2, x3, x4, x5, x6, x7, x8, x9, x10, x11, x12, x13] ∧ ρ.i (v0 + 2) = sp.I key 2 [x0, x1, x2, x3, x4, x5, x6, x7, x8, x9, x10, x11, x12, x13] ∧ ρ.i (v0 + 3) = sp.I key 3 [x0, x1, x2, x3, x4, x5, x6, x7, x8, x9, x10, x11, x12, x13] ∧ ρ.i (v0 + 4) = sp.I key 4 [x0, x1, x2, x3, x4, x5, x6, x7, x8, x9, x10, x11, x12, x13] ∧ ρ.i (v0 + 5) = sp.I key 5 [x0, x1, x2, x3, x4, x5, x6, x7, x8, x9, x10, x11, x12, x13] ∧ True := he
  simp only [hI, hB] at he'
  obtain ⟨e0, e1, e2, e3, e4, e5, -⟩ := he'
  show some (.agg #[.int .u64 (ρ.i (v0 + 0)), .int .u64 (ρ.i (v0 + 1)), .int .i64 (ρ.i (v0 + 2)), .int .i64 (ρ.i (v0 + 3)), .int .u64 (ρ.i (v0 + 4)), .int .u64 (ρ.i (v0 + 5))] : Value) = _
  rw [e0, e1, e2, e3, e4, e5]
  rfl
def sT_vgiv : Tr :=
(.call 0 [.bool] (.cons (.var 1) (.cons (.var 2) (.cons (.var 3) (.cons (.var 4) (.cons (.var 5) (.cons (.var 6) .nil)))))) 13
 (.br (.bvar 13)
 (.call 0 [.bool] (.cons (.var 7) (.cons (.var 8) (.cons (.var 9) (.cons (.var 10) (.cons (.var 11) (.cons (.var 12) .nil)))))) 14
  (.br (.bvar 14)
  (.call 2 [.int .u64, .int .u64, .int .i64, .int .i64, .bool] (.cons (.var 0) (.cons (.var 1) (.cons (.var 2) (.cons (.var 3) (.cons (.var 4) (.cons (.var 7) (.cons (.var 8) (.cons (.var 9) (.cons (.var 10) .nil))))))))) 15
   (.br (.bvar 19)
   (.br (.eq (.var 0) (.lit 0))
    (.call 3 [.int .u64, .int .u64, .bool] (.cons (.var 5) (.cons (.var 6) (.cons (.var 11) (.cons (.var 12) .nil)))) 20
     (.br (.bvar 22)
     (.call 4 [.int .u64, .int .u64, .int .i64, .int .i64, .int .u64, .int .u64, .bool] (.cons (.var 15) (.cons (.var 16) (.cons (.var 17) (.cons (.var 18) (.cons (.var 20) (.cons (.var 21) .nil)))))) 23
      (.leaf (.tup [(true, [.int .u64 (.var 23), .int .u64 (.var 24), .int .i64 (.var 25), .int .i64 (.var 26), .int .u64 (.var 27), .int .u64 (.var 28)]), (false, [.bool (.bvar 29)])])))
     (.call 1 [.int .u64, .int .u64, .int .i64, .int .i64, .int .u64, .int .u64] .nil 23
      (.leaf (.tup [(true, [.int .u64 (.var 23), .int .u64 (.var 24), .int .i64 (.var 25), .int .i64 (.var 26), .int .u64 (.var 27), .int .u64 (.var 28)]), (false, [.bool (.tt false)])])))))
    (.call 4 [.int .u64, .int .u64, .int .i64, .int .i64, .int .u64, .int .u64, .bool] (.cons (.var 15) (.cons (.var 16) (.cons (.var 17) (.cons (.var 18) (.cons (.var 5) (.cons (.var 6) .nil)))))) 20
     (.leaf (.tup [(true, [.int .u64 (.var 20), .int .u64 (.var 21), .int .i64 (.var 22), .int .i64 (.var 23), .int .u64 (.var 24), .int .u64 (.var 25)]), (false, [.bool (.bvar 26)])]))))
   (.call 1 [.int .u64, .int .u64, .int .i64, .int .i64, .int .u64, .int .u64] .nil 20
    (.leaf (.tup [(true, [.int .u64 (.var 20), .int .u64 (.var 21), .int .i64 (.var 22), .int .i64 (.var 23), .int .u64 (.var 24), .int .u64 (.var 25)]), (false, [.bool (.tt false)])])))))
  (.call 1 [.int .u64, .int .u64, .int .i64, .int .i64, .int .u64, .int .u64] .nil 15
   (.leaf (.tup [(true, [.int .u64 (.var 15), .int .u64 (.var 16), .int .i64 (.var 17), .int .i64 (.var 18), .int .u64 (.var 19), .int .u64 (.var 20)]), (false, [.bool (.tt false)])])))))
 (.call 1 [.int .u64, .int .u64, .int .i64, .int .i64, .int .u64, .int .u64] .nil 14
  (.leaf (.tup [(true, [.int .u64 (.var 14), .int .u64 (.var 15), .int .i64 (.var 16), .int .i64 (.var 17), .int .u64 (.var 18), .int .u64 (.var 19)]), (false, [.bool (.tt false)])])))))
def sP_vgiv : Spec := ⟨fun k => match k with | 0 => sI_vmay | 1 => sI_vall | 2 => sI_given | 3 => sI_kmeet | 4 => sI_vnar | _ => fun _ _ => 0, fun k => match k with | 0 => sB_vmay | 1 => sB_vall | 2 => sB_given | 3 => sB_kmeet | 4 => sB_vnar | _ => fun _ _ => false⟩
set_option maxRecDepth 100000 in
theorem sR_vgiv : funK ⟨tys_VaC, [sM_vmay 0, sM_vall 1, sM_given 2, sM_kmeet 3, sM_vnar 4]⟩ 200 Try.f49 [.one (.int .i8 (.var 0)), .agg [.int .u64 (.var 1), .int .u64 (.var 2), .int .i64 (.var 3), .int .i64 (.var 4), .int .u64 (.var 5), .int .u64 (.var 6)], .agg [.int .u64 (.var 7), .int .u64 (.var 8), .int .i64 (.var 9), .int .i64 (.var 10), .int .u64 (.var 11), .int .u64 (.var 12)]] ⟨[], [], [some .i8, some .u64, some .u64, some .i64, some .i64, some .u64, some .u64, some .u64, some .u64, some .i64, some .i64, some .u64, some .u64]⟩ = sT_vgiv := by kernel_rfl
set_option maxRecDepth 100000 in
set_option maxHeartbeats 8000000 in
theorem sX_vgiv (cc : Int) (hcc : inK .i8 cc = true) (a : Sc) (ha : Sc.ok a) (b : Sc) (hb : Sc.ok b) : (∀ w, Calls Try.prog 49 #[.int .i8 cc, .agg #[.int .u64 a.ul, .int .u64 a.uh, .int .i64 a.sl, .int .i64 a.sh, .int .u64 a.v, .int .u64 a.m], .agg #[.int .u64 b.ul, .int .u64 b.uh, .int .i64 b.sl, .int .i64 b.sh, .int .u64 b.v, .int .u64 b.m]] w fun e w' => e = .returned (.tuple #[.agg #[.int .u64 (vgiv cc a b).ul, .int .u64 (vgiv cc a b).uh, .int .i64 (vgiv cc a b).sl, .int .i64 (vgiv cc a b).sh, .int .u64 (vgiv cc a b).v, .int .u64 (vgiv cc a b).m], .bool (vgok cc a b)]) ∧ Ext w w') ∧ valIn (.tuple #[.agg #[.int .u64 (vgiv cc a b).ul, .int .u64 (vgiv cc a b).uh, .int .i64 (vgiv cc a b).sl, .int .i64 (vgiv cc a b).sh, .int .u64 (vgiv cc a b).v, .int .u64 (vgiv cc a b).m], .bool (vgok cc a b)]) = true := by
  refine fun_calls (cx := ⟨tys_VaC, [sM_vmay 0, sM_vall 1, sM_given 2, sM_kmeet 3, sM_vnar 4]⟩) (sp := sP_vgiv) (t := sT_vgiv) (by kernel_rfl) tysok_VaC (List.forall_mem_cons.2 ⟨sK_vmay rfl rfl, List.forall_mem_cons.2 ⟨sK_vall rfl rfl, List.forall_mem_cons.2 ⟨sK_given rfl rfl, List.forall_mem_cons.2 ⟨sK_kmeet rfl rfl, List.forall_mem_cons.2 ⟨sK_vnar rfl rfl, fun _ h => (by cases h)⟩⟩⟩⟩⟩) (keys_of (by kernel_rfl)) Try.func49 ⟨fun n => ([cc, a.ul, a.uh, a.sl, a.sh, a.v, a.m, b.ul, b.uh, b.sl, b.sh, b.v, b.m] : List Int).getD n 0, fun n => ([false, false, false, false, false, false, false, false, false, false, false, false, false] : List Bool).getD n false⟩ sR_vgiv (by kernel_rfl) ?_ rfl (by intro p hp; cases hp) ?_ ?_
  · intro n k hk
    have hlt : n < 13 := by
      rcases Nat.lt_or_ge n 13 with h | h
      · exact h
      · rw [List.getElem?_eq_none h] at hk; cases hk
    rcases (show n = 0 ∨ n = 1 ∨ n = 2 ∨ n = 3 ∨ n = 4 ∨ n = 5 ∨ n = 6 ∨ n = 7 ∨ n = 8 ∨ n = 9 ∨ n = 10 ∨ n = 11 ∨ n = 12 by omega) with rfl | rfl | rfl | rfl | rfl | rfl | rfl | rfl | rfl | rfl | rfl | rfl | rfl
    · cases hk; exact hcc
    · cases hk; exact ha.1
    · cases hk; exact ha.2.1
    · cases hk; exact ha.2.2.1
    · cases hk; exact ha.2.2.2.1
    · cases hk; exact ha.2.2.2.2.1
    · cases hk; exact ha.2.2.2.2.2
    · cases hk; exact hb.1
    · cases hk; exact hb.2.1
    · cases hk; exact hb.2.2.1
    · cases hk; exact hb.2.2.2.1
    · cases hk; exact hb.2.2.2.2.1
    · cases hk; exact hb.2.2.2.2.2
  · intro ρ hag
    have g0 : ρ.i 0 = cc := (hag 0 (by decide)).1.symm
    have g1 : ρ.i 1 = a.ul := (hag 1 (by decide)).1.symm
    have g2 : ρ.i 2 = a.uh := (hag 2 (by decide)).1.symm
    have g3 : ρ.i 3 = a.sl := (hag 3 (by decide)).1.symm
    have g4 : ρ.i 4 = a.sh := (hag 4 (by decide)).1.symm
    have g5 : ρ.i 5 = a.v := (hag 5 (by decide)).1.symm
    have g6 : ρ.i 6 = a.m := (hag 6 (by decide)).1.symm
    have g7 : ρ.i 7 = b.ul := (hag 7 (by decide)).1.symm
    have g8 : ρ.i 8 = b.uh := (hag 8 (by decide)).1.symm
    have g9 : ρ.i 9 = b.sl := (hag 9 (by decide)).1.symm
    have g10 : ρ.i 10 = b.sh := (hag 10 (by decide)).1.symm
    have g11 : ρ.i 11 = b.v := (hag 11 (by decide)).1.symm
    have g12 : ρ.i 12 = b.m := (hag 12 (by decide)).1.symm
    show some ([.int .i8 (ρ.i 0), .agg #[.int .u64 (ρ.i 1), .int .u64 (ρ.i 2), .int .i64 (ρ.i 3), .int .i64 (ρ.i 4), .int .u64 (ρ.i 5), .int .u64 (ρ.i 6)], .agg #[.int .u64 (ρ.i 7), .int .u64 (ρ.i 8), .int .i64 (ρ.i 9), .int .i64 (ρ.i 10), .int .u64 (ρ.i 11), .int .u64 (ρ.i 12)]] : List Value) = _
    rw [g0, g1, g2, g3, g4, g5, g6, g7, g8, g9, g10, g11, g12]
  · intro ρ hag
    have g0 : ρ.i 0 = cc := (hag 0 (by decide)).1.symm
    have g1 : ρ.i 1 = a.ul := (hag 1 (by decide)).1.symm
    have g2 : ρ.i 2 = a.uh := (hag 2 (by decide)).1.symm
    have g3 : ρ.i 3 = a.sl := (hag 3 (by decide)).1.symm
    have g4 : ρ.i 4 = a.sh := (hag 4 (by decide)).1.symm
    have g5 : ρ.i 5 = a.v := (hag 5 (by decide)).1.symm
    have g6 : ρ.i 6 = a.m := (hag 6 (by decide)).1.symm
    have g7 : ρ.i 7 = b.ul := (hag 7 (by decide)).1.symm
    have g8 : ρ.i 8 = b.uh := (hag 8 (by decide)).1.symm
    have g9 : ρ.i 9 = b.sl := (hag 9 (by decide)).1.symm
    have g10 : ρ.i 10 = b.sh := (hag 10 (by decide)).1.symm
    have g11 : ρ.i 11 = b.v := (hag 11 (by decide)).1.symm
    have g12 : ρ.i 12 = b.m := (hag 12 (by decide)).1.symm
    simp only [sT_vgiv, Tr.asks, eqs, E.I, E.B, E.L, V.den, C.den, denL, den0, den0L, Option.map_some, Nat.add_zero, Nat.reduceAdd, and_true, Sc.eta, Sc.eta_r, Sc.eta_k, Sc.eta_2, g0, g1, g2, g3, g4, g5, g6, g7, g8, g9, g10, g11, g12]
    simp only [sP_vgiv, b01, Kn.eta, Pi.eta, Pu.eta, Rg.eta, Sc.eta, Sc.eta_r, Sc.eta_k, Sc.eta_2, sI_vmay, sB_vmay, sI_vall, sB_vall, sI_given, sB_given, sI_kmeet, sB_kmeet, sI_vnar, sB_vnar]
    intro e13
    (try simp only [e13, Kn.eta, Pi.eta, Pu.eta, Rg.eta, Sc.eta, Sc.eta_r, Sc.eta_k, Sc.eta_2])
    (try clear e13)
    refine ⟨fun c0 => ?_, fun c0 => ?_⟩
    · skip
      intro e14
      (try simp only [e14, Kn.eta, Pi.eta, Pu.eta, Rg.eta, Sc.eta, Sc.eta_r, Sc.eta_k, Sc.eta_2])
      (try clear e14)
      refine ⟨fun c1 => ?_, fun c1 => ?_⟩
      · skip
        rintro ⟨e15, e16, e17, e18, e19⟩
        (try simp only [e15, e16, e17, e18, e19, Kn.eta, Pi.eta, Pu.eta, Rg.eta, Sc.eta, Sc.eta_r, Sc.eta_k, Sc.eta_2])
        (try clear e15 e16 e17 e18 e19)
        refine ⟨fun c2 => ?_, fun c2 => ?_⟩
        · skip
          refine ⟨fun c3 => ?_, fun c3 => ?_⟩
          · skip
            rintro ⟨e20, e21, e22⟩
            (try simp only [e20, e21, e22, Kn.eta, Pi.eta, Pu.eta, Rg.eta, Sc.eta, Sc.eta_r, Sc.eta_k, Sc.eta_2])
            (try clear e20 e21 e22)
            refine ⟨fun c4 => ?_, fun c4 => ?_⟩
            · skip
              rintro ⟨e23, e24, e25, e26, e27, e28, e29⟩
              (try simp only [e23, e24, e25, e26, e27, e28, e29, Kn.eta, Pi.eta, Pu.eta, Rg.eta, Sc.eta, Sc.eta_r, Sc.eta_k, Sc.eta_2])
              (try clear e23 e24 e25 e26 e27 e28 e29)
              all_goals
                refine congrArg some ?_
                (have q := vg_0 c0 c1 c2 c3 c4; rw [q.1, q.2]; try rfl)
            · skip
              rintro ⟨e23, e24, e25, e26, e27, e28⟩
              (try simp only [e23, e24, e25, e26, e27, e28, Kn.eta, Pi.eta, Pu.eta, Rg.eta, Sc.eta, Sc.eta_r, Sc.eta_k, Sc.eta_2])
              (try clear e23 e24 e25 e26 e27 e28)
              all_goals
                refine congrArg some ?_
                (have q := vg_f (cc := cc) (a := a) (b := b) (.inr (.inr (.inr ⟨c3, c4⟩))); rw [q.1, q.2]; try rfl)
          · skip
            rintro ⟨e20, e21, e22, e23, e24, e25, e26⟩
            (try simp only [e20, e21, e22, e23, e24, e25, e26, Kn.eta, Pi.eta, Pu.eta, Rg.eta, Sc.eta, Sc.eta_r, Sc.eta_k, Sc.eta_2])
            (try clear e20 e21 e22 e23 e24 e25 e26)
            all_goals
              refine congrArg some ?_
              (have q := vg_n c0 c1 c2 c3; rw [q.1, q.2]; try rfl)
        · skip
          rintro ⟨e20, e21, e22, e23, e24, e25⟩
          (try simp only [e20, e21, e22, e23, e24, e25, Kn.eta, Pi.eta, Pu.eta, Rg.eta, Sc.eta, Sc.eta_r, Sc.eta_k, Sc.eta_2])
          (try clear e20 e21 e22 e23 e24 e25)
          all_goals
            refine congrArg some ?_
            (have q := vg_f (cc := cc) (a := a) (b := b) (.inr (.inr (.inl c2))); rw [q.1, q.2]; try rfl)
      · skip
        rintro ⟨e15, e16, e17, e18, e19, e20⟩
        (try simp only [e15, e16, e17, e18, e19, e20, Kn.eta, Pi.eta, Pu.eta, Rg.eta, Sc.eta, Sc.eta_r, Sc.eta_k, Sc.eta_2])
        (try clear e15 e16 e17 e18 e19 e20)
        all_goals
          refine congrArg some ?_
          (have q := vg_f (cc := cc) (a := a) (b := b) (.inr (.inl c1)); rw [q.1, q.2]; try rfl)
    · skip
      rintro ⟨e14, e15, e16, e17, e18, e19⟩
      (try simp only [e14, e15, e16, e17, e18, e19, Kn.eta, Pi.eta, Pu.eta, Rg.eta, Sc.eta, Sc.eta_r, Sc.eta_k, Sc.eta_2])
      (try clear e14 e15 e16 e17 e18 e19)
      all_goals
        refine congrArg some ?_
        (have q := vg_f (cc := cc) (a := a) (b := b) (.inl c0); rw [q.1, q.2]; try rfl)
def sM_vgiv (key : Nat) : Sm := ⟨49, key, [(false, [.int .i8]), (true, [.int .u64, .int .u64, .int .i64, .int .i64, .int .u64, .int .u64]), (true, [.int .u64, .int .u64, .int .i64, .int .i64, .int .u64, .int .u64])], [(true, [.int .u64, .int .u64, .int .i64, .int .i64, .int .u64, .int .u64]), (false, [.bool])], true⟩
def sI_vgiv : Nat → List Int → Int
  | 0, [x0, x1, x2, x3, x4, x5, x6, x7, x8, x9, x10, x11, x12] => (fun (cc : Int) (a : Sc) (b : Sc) => (vgiv cc a b).ul) x0 ⟨x1, x2, x3, x4, x5, x6⟩ ⟨x7, x8, x9, x10, x11, x12⟩
  | 1, [x0, x1, x2, x3, x4, x5, x6, x7, x8, x9, x10, x11, x12] => (fun (cc : Int) (a : Sc) (b : Sc) => (vgiv cc a b).uh) x0 ⟨x1, x2, x3, x4, x5, x6⟩ ⟨x7, x8, x9, x10, x11, x12⟩
  | 2, [x0, x1, x2, x3, x4, x5, x6, x7, x8, x9, x10, x11, x12] => (fun (cc : Int) (a : Sc) (b : Sc) => (vgiv cc a b).sl) x0 ⟨x1, x2, x3, x4, x5, x6⟩ ⟨x7, x8, x9, x10, x11, x12⟩
  | 3, [x0, x1, x2, x3, x4, x5, x6, x7, x8, x9, x10, x11, x12] => (fun (cc : Int) (a : Sc) (b : Sc) => (vgiv cc a b).sh) x0 ⟨x1, x2, x3, x4, x5, x6⟩ ⟨x7, x8, x9, x10, x11, x12⟩
  | 4, [x0, x1, x2, x3, x4, x5, x6, x7, x8, x9, x10, x11, x12] => (fun (cc : Int) (a : Sc) (b : Sc) => (vgiv cc a b).v) x0 ⟨x1, x2, x3, x4, x5, x6⟩ ⟨x7, x8, x9, x10, x11, x12⟩
  | 5, [x0, x1, x2, x3, x4, x5, x6, x7, x8, x9, x10, x11, x12] => (fun (cc : Int) (a : Sc) (b : Sc) => (vgiv cc a b).m) x0 ⟨x1, x2, x3, x4, x5, x6⟩ ⟨x7, x8, x9, x10, x11, x12⟩
  | _, _ => 0
def sB_vgiv : Nat → List Int → Bool
  | 6, [x0, x1, x2, x3, x4, x5, x6, x7, x8, x9, x10, x11, x12] => (fun (cc : Int) (a : Sc) (b : Sc) => vgok cc a b) x0 ⟨x1, x2, x3, x4, x5, x6⟩ ⟨x7, x8, x9, x10, x11, x12⟩
  | _, _ => false
theorem sK_vgiv {sp : Spec} {key : Nat} (hI : sp.I key = sI_vgiv) (hB : sp.B key = sB_vgiv) : SmOk Try.prog sp (sM_vgiv key) := by
  refine SmOk.of (.inl ⟨run_enter Try.func49 (by kernel_rfl) (by kernel_rfl), fun xs vals h => ?_⟩) (.inl rfl)
  obtain ⟨_, _, _, d1, h1, rfl⟩ := shO h
  obtain ⟨x0, rfl, rfl, gx0⟩ := ckI d1
  obtain ⟨_, _, _, p2, h2, rfl⟩ := shA h1
  obtain ⟨_, _, _, d2_0, p2_0, rfl⟩ := cksC p2
  obtain ⟨x1, rfl, rfl, gx1⟩ := ckI d2_0
  obtain ⟨_, _, _, d2_1, p2_1, rfl⟩ := cksC p2_0
  obtain ⟨x2, rfl, rfl, gx2⟩ := ckI d2_1
  obtain ⟨_, _, _, d2_2, p2_2, rfl⟩ := cksC p2_1
  obtain ⟨x3, rfl, rfl, gx3⟩ := ckI d2_2
  obtain ⟨_, _, _, d2_3, p2_3, rfl⟩ := cksC p2_2
  obtain ⟨x4, rfl, rfl, gx4⟩ := ckI d2_3
  obtain ⟨_, _, _, d2_4, p2_4, rfl⟩ := cksC p2_3
  obtain ⟨x5, rfl, rfl, gx5⟩ := ckI d2_4
  obtain ⟨_, _, _, d2_5, p2_5, rfl⟩ := cksC p2_4
  obtain ⟨x6, rfl, rfl, gx6⟩ := ckI d2_5
  obtain ⟨rfl, rfl⟩ := cksN p2_5
  obtain ⟨_, _, _, p3, h3, rfl⟩ := shA h2
  obtain ⟨_, _, _, d3_0, p3_0, rfl⟩ := cksC p3
  obtain ⟨x7, rfl, rfl, gx7⟩ := ckI d3_0
  obtain ⟨_, _, _, d3_1, p3_1, rfl⟩ := cksC p3_0
  obtain ⟨x8, rfl, rfl, gx8⟩ := ckI d3_1
  obtain ⟨_, _, _, d3_2, p3_2, rfl⟩ := cksC p3_1
  obtain ⟨x9, rfl, rfl, gx9⟩ := ckI d3_2
  obtain ⟨_, _, _, d3_3, p3_3, rfl⟩ := cksC p3_2
  obtain ⟨x10, rfl, rfl, gx10⟩ := ckI d3_3
  obtain ⟨_, _, _, d3_4, p3_4, rfl⟩ := cksC p3_3
  obtain ⟨x11, rfl, rfl, gx11⟩ := ckI d3_4
  obtain ⟨_, _, _, d3_5, p3_5, rfl⟩ := cksC p3_4
  obtain ⟨x12, rfl, rfl, gx12⟩ := ckI d3_5
  obtain ⟨rfl, rfl⟩ := cksN p3_5
  obtain ⟨rfl, rfl⟩ := shN h3
  refine ⟨_, sX_vgiv x0 gx0 ⟨x1, x2, x3, x4, x5, x6⟩ ⟨gx1, gx2, gx3, gx4, gx5, gx6⟩ ⟨x7, x8, x9, x10, x11, x12⟩ ⟨gx7, gx8, gx9, gx10, gx11, gx12⟩, fun ρ v0 he => ?_⟩
  have he' : ρ.i (v0 + 0) = sp.I key 0 [x0, x1, x2, x3, x4, x5, x6, x7, x8, x9, x10, x11, x12] ∧ ρ.i (v0 + 1) = sp.I key 1 [x0, x1, x2, x3, x4, x5, x6, x7, x8, x9, x10, x11, x12] ∧ ρ.i (v0 + 2) = sp.I key 2 [x0, x1, x2, x3, x4, x5, x6, x7, x8, x9, x10, x11, x12] ∧ ρ.i (v0 + 3) = sp.I key 3 [x0, x1, x2, x3, x4, x5, x6, x7, x8, x9, x10, x11, x12] ∧ ρ.i (v0 + 4) = sp.I key 4 [x0, x1, x2, x3, x4, x5, x6, x7, x8, x9, x10, x11, x12] ∧ ρ.i (v0 + 5) = sp.I key 5 [x0, x1, x2, x3, x4, x5, x6, x7, x8, x9, x10, x11, x12] ∧ ρ.b (v0 + 6) = sp.B key 6 [x0, x1, x2, x3, x4, x5, x6, x7, x8, x9, x10, x11, x12] ∧ True := he
  simp only [hI, hB] at he'
  obtain ⟨e0, e1, e2, e3, e4, e5, e6, -⟩ := he'
  show some (.tuple #[.agg #[.int .u64 (ρ.i (v0 + 0)), .int .u64 (ρ.i (v0 + 1)), .int .i64 (ρ.i (v0 + 2)), .int .i64 (ρ.i (v0 + 3)), .int .u64 (ρ.i (v0 + 4)), .int .u64 (ρ.i (v0 + 5))], .bool (ρ.b (v0 + 6))] : Value) = _
  rw [e0, e1, e2, e3, e4, e5, e6]
  rfl
theorem sX_holds (cc : Int) (hcc : inK .i8 cc = true) (l : Int) (hl : inK .i8 l = true) (x : Int) (hx : inK .u64 x = true) (y : Int) (hy : inK .u64 y = true) : (∀ w, Calls Try.prog 36 #[.int .i8 cc, .int .i8 l, .int .u64 x, .int .u64 y] w fun e w' => e = .returned (.tuple #[.bool ((okcc cc l && zhold cc l x y)), .int .i64 (if okcc cc l = true then 0 else 2)]) ∧ Ext w w') ∧ valIn (.tuple #[.bool ((okcc cc l && zhold cc l x y)), .int .i64 (if okcc cc l = true then 0 else 2)]) = true := by
  have gx := inK_u64 hx
  have gy := inK_u64 hy
  cases hk : okcc cc l
  · refine ⟨fun w => (holds_bad cc l x y w ?_).mono ?_, by simp [valIn, partIn, cellIn]; decide⟩
    · unfold okcc at hk
      rw [Bool.and_eq_false_iff, Bool.and_eq_false_iff] at hk
      rcases hk with (hk | hk) | hk
      · have := of_decide_eq_false hk
        simp; omega
      · have := of_decide_eq_false hk
        simp; omega
      · rw [hk]; simp
    · rintro e w' ⟨rfl, rfl⟩
      exact ⟨by simp, Ext.refl _⟩
  · unfold okcc at hk
    simp only [Bool.and_eq_true, decide_eq_true_eq] at hk
    refine ⟨fun w => (holds_any cc l x y w gx.1 gx.2 gy.1 gy.2 hk.1.1 hk.1.2 hk.2).mono ?_, by simp [valIn, partIn, cellIn]; decide⟩
    rintro e w' ⟨rfl, rfl⟩
    exact ⟨by simp, Ext.refl _⟩
def sM_holds (key : Nat) : Sm := ⟨36, key, [(false, [.int .i8]), (false, [.int .i8]), (false, [.int .u64]), (false, [.int .u64])], [(false, [.bool]), (false, [.int .i64])], true⟩
def sI_holds : Nat → List Int → Int
  | 1, [x0, x1, x2, x3] => (fun (cc : Int) (l : Int) (x : Int) (y : Int) => if okcc cc l = true then 0 else 2) x0 x1 x2 x3
  | _, _ => 0
def sB_holds : Nat → List Int → Bool
  | 0, [x0, x1, x2, x3] => (fun (cc : Int) (l : Int) (x : Int) (y : Int) => (okcc cc l && zhold cc l x y)) x0 x1 x2 x3
  | _, _ => false
theorem sK_holds {sp : Spec} {key : Nat} (hI : sp.I key = sI_holds) (hB : sp.B key = sB_holds) : SmOk Try.prog sp (sM_holds key) := by
  refine SmOk.of (.inl ⟨run_enter Try.func36 (by kernel_rfl) (by kernel_rfl), fun xs vals h => ?_⟩) (.inl rfl)
  obtain ⟨_, _, _, d1, h1, rfl⟩ := shO h
  obtain ⟨x0, rfl, rfl, gx0⟩ := ckI d1
  obtain ⟨_, _, _, d2, h2, rfl⟩ := shO h1
  obtain ⟨x1, rfl, rfl, gx1⟩ := ckI d2
  obtain ⟨_, _, _, d3, h3, rfl⟩ := shO h2
  obtain ⟨x2, rfl, rfl, gx2⟩ := ckI d3
  obtain ⟨_, _, _, d4, h4, rfl⟩ := shO h3
  obtain ⟨x3, rfl, rfl, gx3⟩ := ckI d4
  obtain ⟨rfl, rfl⟩ := shN h4
  refine ⟨_, sX_holds x0 gx0 x1 gx1 x2 gx2 x3 gx3, fun ρ v0 he => ?_⟩
  have he' : ρ.b (v0 + 0) = sp.B key 0 [x0, x1, x2, x3] ∧ ρ.i (v0 + 1) = sp.I key 1 [x0, x1, x2, x3] ∧ True := he
  simp only [hI, hB] at he'
  obtain ⟨e0, e1, -⟩ := he'
  show some (.tuple #[.bool (ρ.b (v0 + 0)), .int .i64 (ρ.i (v0 + 1))] : Value) = _
  rw [e0, e1]
  rfl
def sT_vwakes : Tr :=
(.call 0 [.int .u64, .int .u64, .int .i64, .int .i64, .int .u64, .int .u64] .nil 0
 (.call 1 [.int .u64, .int .u64, .int .i64, .int .i64, .int .u64, .int .u64] (.cons (.lit 7) .nil) 6
 (.call 2 [.int .u64, .int .u64, .int .i64, .int .i64, .int .u64, .int .u64] (.cons (.lit 5) (.cons (.lit 64) (.cons (.var 0) (.cons (.var 1) (.cons (.var 2) (.cons (.var 3) (.cons (.var 4) (.cons (.var 5) (.cons (.var 6) (.cons (.var 7) (.cons (.var 8) (.cons (.var 9) (.cons (.var 10) (.cons (.var 11) .nil)))))))))))))) 12
 (.call 3 [.int .u64, .int .u64, .int .i64, .int .i64, .int .u64, .int .u64] .nil 18
 (.br (.eq (.var 12) (.lit 0))
 (.br (.eq (.var 13) (.lit 7))
  (.br (.eq (.var 19) (.lit 65535))
   (.call 4 [.bool] (.cons (.var 18) (.cons (.var 19) (.cons (.var 20) (.cons (.var 21) (.cons (.var 22) (.cons (.var 23) (.cons (.lit 65535) .nil))))))) 24
    (.br (.bvar 24)
    (.call 4 [.bool] (.cons (.var 18) (.cons (.var 19) (.cons (.var 20) (.cons (.var 21) (.cons (.var 22) (.cons (.var 23) (.cons (.lit 65536) .nil))))))) 25
     (.leaf (.one (.bool (.not (.bvar 25))))))
    (.leaf (.one (.bool (.tt false))))))
   (.leaf (.one (.bool (.tt false)))))
  (.leaf (.one (.bool (.tt false)))))
 (.leaf (.one (.bool (.tt false)))))))))
def sP_vwakes : Spec := ⟨fun k => match k with | 0 => sI_vall | 1 => sI_vone | 2 => sI_vdo | 3 => sI_vby2 | 4 => sI_vhas | _ => fun _ _ => 0, fun k => match k with | 0 => sB_vall | 1 => sB_vone | 2 => sB_vdo | 3 => sB_vby2 | 4 => sB_vhas | _ => fun _ _ => false⟩
set_option maxRecDepth 100000 in
theorem sR_vwakes : funK ⟨tys_VaC, [sM_vall 0, sM_vone 1, sM_vdo 2, sM_vby2 3, sM_vhas 4]⟩ 200 Try.f42 [] ⟨[], [], []⟩ = sT_vwakes := by kernel_rfl
set_option maxRecDepth 100000 in
set_option maxHeartbeats 8000000 in
theorem sX_vwakes  : (∀ w, Calls Try.prog 42 #[] w fun e w' => e = .returned (.bool true) ∧ Ext w w') ∧ valIn (.bool true) = true := by
  refine fun_calls (cx := ⟨tys_VaC, [sM_vall 0, sM_vone 1, sM_vdo 2, sM_vby2 3, sM_vhas 4]⟩) (sp := sP_vwakes) (t := sT_vwakes) (by kernel_rfl) tysok_VaC (List.forall_mem_cons.2 ⟨sK_vall rfl rfl, List.forall_mem_cons.2 ⟨sK_vone rfl rfl, List.forall_mem_cons.2 ⟨sK_vdo rfl rfl, List.forall_mem_cons.2 ⟨sK_vby2 rfl rfl, List.forall_mem_cons.2 ⟨sK_vhas rfl rfl, fun _ h => (by cases h)⟩⟩⟩⟩⟩) (keys_of (by kernel_rfl)) Try.func42 ⟨fun n => ([] : List Int).getD n 0, fun n => ([] : List Bool).getD n false⟩ sR_vwakes (by kernel_rfl) ?_ rfl (by intro p hp; cases hp) ?_ ?_
  · intro n k hk
    have hlt : n < 0 := by
      rcases Nat.lt_or_ge n 0 with h | h
      · exact h
      · rw [List.getElem?_eq_none h] at hk; cases hk
    omega
  · intro ρ hag
    show some ([] : List Value) = _
    rfl
  · intro ρ hag
    simp only [sT_vwakes, Tr.asks, eqs, E.I, E.B, E.L, V.den, C.den, denL, den0, den0L, Option.map_some, Nat.add_zero, Nat.reduceAdd, and_true, Sc.eta_r, Sc.eta_k, Sc.eta_2]
    simp only [sP_vwakes, b01, Kn.eta, Pi.eta, Pu.eta, Rg.eta, Sc.eta, Sc.eta_r, Sc.eta_k, Sc.eta_2, sI_vall, sB_vall, sI_vone, sB_vone, sI_vdo, sB_vdo, sI_vby2, sB_vby2, sI_vhas, sB_vhas]
    rintro ⟨e0, e1, e2, e3, e4, e5⟩
    (try simp only [e0, e1, e2, e3, e4, e5, Kn.eta, Pi.eta, Pu.eta, Rg.eta, Sc.eta, Sc.eta_r, Sc.eta_k, Sc.eta_2])
    (try clear e0 e1 e2 e3 e4 e5)
    rintro ⟨e6, e7, e8, e9, e10, e11⟩
    (try simp only [e6, e7, e8, e9, e10, e11, Kn.eta, Pi.eta, Pu.eta, Rg.eta, Sc.eta, Sc.eta_r, Sc.eta_k, Sc.eta_2])
    (try clear e6 e7 e8 e9 e10 e11)
    rintro ⟨e12, e13, e14, e15, e16, e17⟩
    (try simp only [e12, e13, e14, e15, e16, e17, Kn.eta, Pi.eta, Pu.eta, Rg.eta, Sc.eta, Sc.eta_r, Sc.eta_k, Sc.eta_2])
    (try clear e12 e13 e14 e15 e16 e17)
    rintro ⟨e18, e19, e20, e21, e22, e23⟩
    (try simp only [e18, e19, e20, e21, e22, e23, Kn.eta, Pi.eta, Pu.eta, Rg.eta, Sc.eta, Sc.eta_r, Sc.eta_k, Sc.eta_2])
    (try clear e18 e19 e20 e21 e22 e23)
    refine ⟨fun c0 => ?_, fun c0 => ?_⟩
    · skip
      refine ⟨fun c1 => ?_, fun c1 => ?_⟩
      · skip
        refine ⟨fun c2 => ?_, fun c2 => ?_⟩
        · skip
          intro e24
          (try simp only [e24, Kn.eta, Pi.eta, Pu.eta, Rg.eta, Sc.eta, Sc.eta_r, Sc.eta_k, Sc.eta_2])
          (try clear e24)
          refine ⟨fun c3 => ?_, fun c3 => ?_⟩
          · skip
            intro e25
            (try simp only [e25, Kn.eta, Pi.eta, Pu.eta, Rg.eta, Sc.eta, Sc.eta_r, Sc.eta_k, Sc.eta_2])
            (try clear e25)
            all_goals
              refine congrArg some ?_
              (first | rfl | exact congrArg Value.bool (by decide +kernel) | (exfalso; revert c0 c1 c2 c3; decide +kernel))
          · skip
            all_goals
              refine congrArg some ?_
              (first | rfl | exact congrArg Value.bool (by decide +kernel) | (exfalso; revert c0 c1 c2 c3; decide +kernel))
        · skip
          all_goals
            refine congrArg some ?_
            (first | rfl | exact congrArg Value.bool (by decide +kernel) | (exfalso; revert c0 c1 c2; decide +kernel))
      · skip
        all_goals
          refine congrArg some ?_
          (first | rfl | exact congrArg Value.bool (by decide +kernel) | (exfalso; revert c0 c1; decide +kernel))
    · skip
      all_goals
        refine congrArg some ?_
        (first | rfl | exact congrArg Value.bool (by decide +kernel) | (exfalso; revert c0; decide +kernel))
def sM_vwakes (key : Nat) : Sm := ⟨42, key, [], [(false, [.bool])], false⟩
def sI_vwakes : Nat → List Int → Int
  | _, _ => 0
def sB_vwakes : Nat → List Int → Bool
  | 0, [] => true
  | _, _ => false
theorem sK_vwakes {sp : Spec} {key : Nat} (hI : sp.I key = sI_vwakes) (hB : sp.B key = sB_vwakes) : SmOk Try.prog sp (sM_vwakes key) := by
  refine SmOk.of (.inl ⟨run_enter Try.func42 (by kernel_rfl) (by kernel_rfl), fun xs vals h => ?_⟩) (.inr (.inr ⟨_, rfl⟩))
  obtain ⟨rfl, rfl⟩ := shN h
  refine ⟨_, sX_vwakes , fun ρ v0 he => ?_⟩
  have he' : ρ.b (v0 + 0) = sp.B key 0 [] ∧ True := he
  simp only [hI, hB] at he'
  obtain ⟨e0, -⟩ := he'
  show some (.bool (ρ.b (v0 + 0)) : Value) = _
  rw [e0]
  rfl
end Go.Proofs.Ytcngfmhhaleoaaa
