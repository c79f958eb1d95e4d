/- Texts Vd, VaA, VaB in one. -/
import Derived.Test.YtcngfmhhaleoaaaXbY
import Derived.Test.YtcngfmhhaleoaaaKn
import Derived.Test.YtcngfmhhaleoaaaProg
import Derived.Laws.Externs
/- Scalars: what the functions of package value come to. Plain definitions. -/
set_option linter.unusedVariables false
set_option linter.unusedSimpArgs false
namespace Go.Proofs.Ytcngfmhhaleoaaa
open Go Go.RowKit
structure Sc where
  ul : Int
  uh : Int
  sl : Int
  sh : Int
  v : Int
  m : Int
def Sc.r (a : Sc) : Rg := ⟨a.ul, a.uh, a.sl, a.sh⟩
def Sc.k (a : Sc) : Kn := ⟨a.v, a.m⟩
def sc (r : Rg) (k : Kn) : Sc := ⟨r.ul, r.uh, r.sl, r.sh, k.v, k.m⟩
theorem Sc.eta_r (a : Sc) : (⟨a.ul, a.uh, a.sl, a.sh⟩ : Rg) = a.r := rfl
theorem Sc.eta_k (a : Sc) : (⟨a.v, a.m⟩ : Kn) = a.k := rfl
theorem Sc.eta_2 (r : Rg) (k : Kn) : (⟨r.ul, r.uh, r.sl, r.sh, k.v, k.m⟩ : Sc) = sc r k := rfl
def vmay (a : Sc) : Bool := bmay a.r && kmay a.k
def vall : Sc := sc ball kall
def vone (v : Int) : Sc := sc (bone v) (kone v)
def vhas (a : Sc) (x : Int) : Bool := vmay a && (bhas a.r x && khas a.k x)
def vones (a : Sc) : Bool := vmay a && bones a.r
def vsingle (a : Sc) : Int := if vmay a = true then bsingle a.r else 0
def kcom (r : Rg) : Kn := kmask r.ul (bfill (bits .xor .u64 r.ul r.uh))
def vlo (k : Kn) : Rg := ⟨k.v, bits .or .u64 k.v k.m, ball.sl, ball.sh⟩
def vs1 (a : Sc) : Bool := bmeets a.r (vlo a.k)
def vs2 (a : Sc) : Bool := kmeets a.k (kcom (bmeet a.r (vlo a.k)))
def vst (a : Sc) : Sc := sc (bmeet a.r (vlo a.k)) (kmeet a.k (kcom (bmeet a.r (vlo a.k))))
def vnok (a : Sc) : Bool := vmay a && (vs1 a && (vs2 a && (vs1 (vst a) && vs2 (vst a))))
def vnar (a : Sc) : Sc := if vnok a = true then vst (vst a) else vall
theorem vn_t {a : Sc} (h0 : vmay a = true) (h1 : vs1 a = true) (h2 : vs2 a = true) (h3 : vs1 (vst a) = true) (h4 : vs2 (vst a) = true) : vnar a = vst (vst a) ∧ vnok a = true := by
  have h : vnok a = true := by unfold vnok; rw [h0, h1, h2, h3, h4]; rfl
  exact ⟨if_pos h, h⟩
theorem vn_f {a : Sc} (h : vmay a = false ∨ vs1 a = false ∨ vs2 a = false ∨ vs1 (vst a) = false ∨ vs2 (vst a) = false) : vnar a = vall ∧ vnok a = false := by
  have h : vnok a = false := by unfold vnok; rcases h with h | h | h | h | h <;> rw [h] <;> simp
  exact ⟨if_neg (by rw [h]; simp), h⟩
theorem vn_if (a : Sc) : (if vnok a = true then vnar a else vall) = vnar a := by
  cases h : vnok a
  · unfold vnar; rw [h]; simp
  · simp
def vjoin (a b : Sc) : Sc := if vmay a = true ∧ vmay b = true then vnar (sc (bjoin a.r b.r) (kjoin a.k b.k)) else vall
def bwid (x y : Rg) : Rg := ⟨if (x.ul == y.ul) = false ∧ decide (y.ul < x.ul) = true then 0 else x.ul, if (x.uh == y.uh) = false ∧ decide (x.uh < y.uh) = true then 18446744073709551615 else x.uh,
  if (x.sl == y.sl) = false ∧ decide (y.sl < x.sl) = true then -9223372036854775808 else x.sl, if (x.sh == y.sh) = false ∧ decide (x.sh < y.sh) = true then 9223372036854775807 else x.sh⟩
def vwid (a b : Sc) : Sc := if vmay a = true ∧ vmay b = true then vnar (sc (bwid a.r b.r) (kjoin a.k b.k)) else vall
def vlow (a : Sc) : Sc := vnar (sc (blow a.r) (kcut a.k 32))
def vbel (t : Int) : Sc := vnar (sc ⟨0, t, ball.sl, ball.sh⟩ ⟨0, t⟩)
def vcap (r : Rg) : Rg := if r.uh < 4294967296 then r else blow ball
def vhalf (op : Int) (a b : Sc) : Rg :=
  if op = 8 ∨ op = 12 then blow ball
  else if op = 6 ∨ op = 7 then (if vones b = true then vcap (bdo op a.r (vone (opI .and .u64 (vsingle b) 31)).r) else blow ball)
  else vcap (bdo op a.r b.r)
def vhf (op w : Int) (a b : Sc) : Sc := sc (vhalf op (vlow a) (vlow b)) (kdo op w (vlow a).k (vlow b).k)
def vdo (op w : Int) (a b : Sc) : Sc :=
  if okop op w = true ∧ vmay a = true ∧ vmay b = true then (if w = 64 then vnar (sc (bdo op a.r b.r) (kdo op 64 a.k b.k)) else if vnok (vhf op w a b) = true then vnar (vhf op w a b) else vbel 4294967295) else vall
def vgk (cc : Int) (a b : Sc) : Kn := if cc = 0 then kmeet a.k b.k else a.k
def vgs (cc : Int) (a b : Sc) : Sc := sc (bgiv cc a.r b.r) (vgk cc a b)
def vgok (cc : Int) (a b : Sc) : Bool := vmay a && (vmay b && (bgok cc a.r b.r && ((if cc = 0 then kmeets a.k b.k else true) && vnok (vgs cc a b))))
def vgiv (cc : Int) (a b : Sc) : Sc := if vgok cc a b = true then vnar (vgs cc a b) else vall
theorem vg_0 {cc : Int} {a b : Sc} (h0 : vmay a = true) (h1 : vmay b = true) (h2 : bgok cc a.r b.r = true) (h3 : (cc == 0) = true) (h4 : kmeets a.k b.k = true) :
    vgiv cc a b = vnar (sc (bgiv cc a.r b.r) (kmeet a.k b.k)) ∧ vgok cc a b = vnok (sc (bgiv cc a.r b.r) (kmeet a.k b.k)) := by
  obtain rfl := eqz h3
  have e : vgok 0 a b = vnok (sc (bgiv 0 a.r b.r) (kmeet a.k b.k)) := by unfold vgok; rw [h0, h1, h2, if_pos rfl, h4]; rfl
  refine ⟨?_, e⟩
  unfold vgiv
  rw [e]
  exact vn_if _
theorem vg_n {cc : Int} {a b : Sc} (h0 : vmay a = true) (h1 : vmay b = true) (h2 : bgok cc a.r b.r = true) (h3 : (cc == 0) = false) :
    vgiv cc a b = vnar (sc (bgiv cc a.r b.r) a.k) ∧ vgok cc a b = vnok (sc (bgiv cc a.r b.r) a.k) := by
  have h3 := nez h3
  have e : vgok cc a b = vnok (sc (bgiv cc a.r b.r) a.k) := by unfold vgok vgs vgk; rw [h0, h1, h2, if_neg h3, if_neg h3]; rfl
  refine ⟨?_, e⟩
  unfold vgiv
  rw [e]
  unfold vgs vgk
  rw [if_neg h3]
  exact vn_if _
theorem vg_f {cc : Int} {a b : Sc} (h : vmay a = false ∨ vmay b = false ∨ bgok cc a.r b.r = false ∨ ((cc == 0) = true ∧ kmeets a.k b.k = false)) : vgiv cc a b = vall ∧ vgok cc a b = false := by
  have h : vgok cc a b = false := by
    unfold vgok
    rcases h with h | h | h | ⟨h, h'⟩
    · rw [h]; simp
    · rw [h]; simp
    · rw [h]; simp
    · rw [if_pos (eqz h), h']; simp
  exact ⟨if_neg (by rw [h]; simp), h⟩
def okcc (cc l : Int) : Bool := (decide (0 ≤ cc) && decide (cc ≤ 10)) && zlong l
theorem ok_of {b : Bool} (h : ((if b = true then (0 : Int) else 2) == 0) = true) : b = true := by cases b <;> simp_all
theorem nok_of {b : Bool} (h : ((if b = true then (0 : Int) else 2) == 0) = false) : b = false := by cases b <;> simp_all
theorem agg_Kn {r s : Kn} (h : r = s) : Value.agg #[.int .u64 r.v, .int .u64 r.m] = Value.agg #[.int .u64 s.v, .int .u64 s.m] := by rw [h]
theorem kcom_t {r : Rg} (hr : r.wf) : (⟨bits .andNot .u64 r.ul (opI .sub .u64 (opI .shl .u64 1 (opI .sub .i64 64 (64 - (blenN (bits .xor .u64 r.ul r.uh).toNat : Int)))) 1), opI .sub .u64 (opI .shl .u64 1 (opI .sub .i64 64 (64 - (blenN (bits .xor .u64 r.ul r.uh).toNat : Int)))) 1⟩ : Kn) = kcom r := by
  have hx := xor_bd r.ul r.uh
  have hb : blenN (bits .xor .u64 r.ul r.uh).toNat ≤ 64 := blen_le (by omega)
  have e : opI .sub .i64 64 (64 - (blenN (bits .xor .u64 r.ul r.uh).toNat : Int)) = (blenN (bits .xor .u64 r.ul r.uh).toNat : Int) := by
    show IntKind.i64.wrap _ = _
    rw [w_i64]; omega
  rw [e, fill_eq hx.1 hx.2]
  rfl
theorem kcom_f {r : Rg} (hr : r.wf) (h : decide (0 < 64 - (blenN (bits .xor .u64 r.ul r.uh).toNat : Int)) = false) : (⟨bits .andNot .u64 r.ul 18446744073709551615, 18446744073709551615⟩ : Kn) = kcom r := by
  have h := of_decide_eq_false h
  have hx := xor_bd r.ul r.uh
  have hb : blenN (bits .xor .u64 r.ul r.uh).toNat ≤ 64 := blen_le (by omega)
  have e : bfill (bits .xor .u64 r.ul r.uh) = 18446744073709551615 := by
    unfold bfill
    rw [show blenN (bits .xor .u64 r.ul r.uh).toNat = 64 by omega]
    rfl
  unfold kcom kmask
  rw [e]
end Go.Proofs.Ytcngfmhhaleoaaa

/- Contracts of package known and the small ones of package value, by the symbolic run. -/
set_option linter.unusedVariables false
set_option linter.unusedSimpArgs false
namespace Go.Proofs.Ytcngfmhhaleoaaa
open Go.RowKit Go.ChangeShapes Go.WideShapes

theorem Kn.eta (a : Kn) : (⟨a.v, a.m⟩ : Kn) = a := rfl
def Kn.ok (a : Kn) : Prop := inK .u64 a.v = true ∧ inK .u64 a.m = true
theorem Sc.eta (a : Sc) : (⟨a.ul, a.uh, a.sl, a.sh, a.v, a.m⟩ : Sc) = a := rfl
def Sc.ok (a : Sc) : Prop := inK .u64 a.ul = true ∧ inK .u64 a.uh = true ∧ inK .i64 a.sl = true ∧ inK .i64 a.sh = true ∧ inK .u64 a.v = true ∧ inK .u64 a.m = true
def tys_VaA : List (Nat × TI) := [(2, ⟨false, 1, [.int .i64 (.lit 0)], [], none, some .i64, false, false⟩),
  (22, ⟨false, 1, [.int .u64 (.lit 0)], [], none, some .u64, false, false⟩),
  (24, ⟨true, 4, [.int .u64 (.lit 0), .int .u64 (.lit 0), .int .i64 (.lit 0), .int .i64 (.lit 0)], [(0, 22), (1, 22), (2, 2), (3, 2)], none, none, false, false⟩),
  (50, ⟨true, 2, [.int .u64 (.lit 0), .int .u64 (.lit 0)], [(0, 22), (1, 22)], none, none, false, false⟩),
  (52, ⟨true, 6, [.int .u64 (.lit 0), .int .u64 (.lit 0), .int .i64 (.lit 0), .int .i64 (.lit 0), .int .u64 (.lit 0), .int .u64 (.lit 0)], [(0, 24), (4, 50)], none, none, false, false⟩)]
set_option maxRecDepth 100000 in
theorem tysck_VaA : (tys_VaA.all fun p => ckTI Try.prog p.1 p.2) = true := by kernel_rfl
theorem tysne_VaA : (tys_VaA.all fun p => !p.2.eqok) = true := by kernel_rfl
theorem tysok_VaA : ∀ t i, (t, i) ∈ tys_VaA → TIok Try.prog t i := by
  intro t i h
  have h1 := all_at (f := fun _ i => !i.eqok) tysne_VaA h
  exact TIok_of (all_at (f := ckTI Try.prog) tysck_VaA h) (fun he => by simp [he] at h1) (fun he => by simp [he] at h1)
def sT_kmay : Tr :=
(.leaf (.one (.bool (.eq (.bin .and .u64 (.var 0) (.var 1)) (.lit 0)))))
def sP_kmay : Spec := ⟨fun k => match k with | _ => fun _ _ => 0, fun k => match k with | _ => fun _ _ => false⟩
set_option maxRecDepth 100000 in
theorem sR_kmay : funK ⟨tys_VaA, []⟩ 200 Try.f100 [.agg [.int .u64 (.var 0), .int .u64 (.var 1)]] ⟨[], [], [some .u64, some .u64]⟩ = sT_kmay := by kernel_rfl
set_option maxRecDepth 100000 in
set_option maxHeartbeats 8000000 in
theorem sX_kmay (a : Kn) (ha : Kn.ok a) : (∀ w, Calls Try.prog 100 #[.agg #[.int .u64 a.v, .int .u64 a.m]] w fun e w' => e = .returned (.bool (kmay a)) ∧ Ext w w') ∧ valIn (.bool (kmay a)) = true := by
  refine fun_calls (cx := ⟨tys_VaA, []⟩) (sp := sP_kmay) (t := sT_kmay) (by kernel_rfl) tysok_VaA (fun _ h => (by cases h)) (keys_of (by kernel_rfl)) Try.func100 ⟨fun n => ([a.v, a.m] : List Int).getD n 0, fun n => ([false, false] : List Bool).getD n false⟩ sR_kmay (by kernel_rfl) ?_ rfl (by intro p hp; cases hp) ?_ ?_
  · intro n k hk
    have hlt : n < 2 := by
      rcases Nat.lt_or_ge n 2 with h | h
      · exact h
      · rw [List.getElem?_eq_none h] at hk; cases hk
    rcases (show n = 0 ∨ n = 1 by omega) with rfl | rfl
    · cases hk; exact ha.1
    · cases hk; exact ha.2
  · intro ρ hag
    have g0 : ρ.i 0 = a.v := (hag 0 (by decide)).1.symm
    have g1 : ρ.i 1 = a.m := (hag 1 (by decide)).1.symm
    show some ([.agg #[.int .u64 (ρ.i 0), .int .u64 (ρ.i 1)]] : List Value) = _
    rw [g0, g1]
  · intro ρ hag
    have g0 : ρ.i 0 = a.v := (hag 0 (by decide)).1.symm
    have g1 : ρ.i 1 = a.m := (hag 1 (by decide)).1.symm
    simp only [sT_kmay, Tr.asks, eqs, E.I, E.B, E.L, V.den, C.den, denL, den0, den0L, Option.map_some, Nat.add_zero, Nat.reduceAdd, and_true, Kn.eta, Sc.eta_r, Sc.eta_k, Sc.eta_2, g0, g1]
    all_goals
      refine congrArg some ?_
      rfl
def sM_kmay (key : Nat) : Sm := ⟨100, key, [(true, [.int .u64, .int .u64])], [(false, [.bool])], false⟩
def sI_kmay : Nat → List Int → Int
  | _, _ => 0
def sB_kmay : Nat → List Int → Bool
  | 0, [x0, x1] => (fun (a : Kn) => kmay a) ⟨x0, x1⟩
  | _, _ => false
theorem sK_kmay {sp : Spec} {key : Nat} (hI : sp.I key = sI_kmay) (hB : sp.B key = sB_kmay) : SmOk Try.prog sp (sM_kmay key) := by
  refine SmOk.of (.inl ⟨run_enter Try.func100 (by kernel_rfl) (by kernel_rfl), fun xs vals h => ?_⟩) (.inr (.inr ⟨_, rfl⟩))
  obtain ⟨_, _, _, p1, h1, rfl⟩ := shA h
  obtain ⟨_, _, _, d1_0, p1_0, rfl⟩ := cksC p1
  obtain ⟨x0, rfl, rfl, gx0⟩ := ckI d1_0
  obtain ⟨_, _, _, d1_1, p1_1, rfl⟩ := cksC p1_0
  obtain ⟨x1, rfl, rfl, gx1⟩ := ckI d1_1
  obtain ⟨rfl, rfl⟩ := cksN p1_1
  obtain ⟨rfl, rfl⟩ := shN h1
  refine ⟨_, sX_kmay ⟨x0, x1⟩ ⟨gx0, gx1⟩, fun ρ v0 he => ?_⟩
  have he' : ρ.b (v0 + 0) = sp.B key 0 [x0, x1] ∧ True := he
  simp only [hI, hB] at he'
  obtain ⟨e0, -⟩ := he'
  show some (.bool (ρ.b (v0 + 0)) : Value) = _
  rw [e0]
  rfl
def sT_kall : Tr :=
(.leaf (.agg [.int .u64 (.lit 0), .int .u64 (.lit 18446744073709551615)]))
def sP_kall : Spec := ⟨fun k => match k with | _ => fun _ _ => 0, fun k => match k with | _ => fun _ _ => false⟩
set_option maxRecDepth 100000 in
theorem sR_kall : funK ⟨tys_VaA, []⟩ 200 Try.f91 [] ⟨[], [], []⟩ = sT_kall := by kernel_rfl
set_option maxRecDepth 100000 in
set_option maxHeartbeats 8000000 in
theorem sX_kall  : (∀ w, Calls Try.prog 91 #[] w fun e w' => e = .returned (.agg #[.int .u64 kall.v, .int .u64 kall.m]) ∧ Ext w w') ∧ valIn (.agg #[.int .u64 kall.v, .int .u64 kall.m]) = true := by
  refine fun_calls (cx := ⟨tys_VaA, []⟩) (sp := sP_kall) (t := sT_kall) (by kernel_rfl) tysok_VaA (fun _ h => (by cases h)) (keys_of (by kernel_rfl)) Try.func91 ⟨fun n => ([] : List Int).getD n 0, fun n => ([] : List Bool).getD n false⟩ sR_kall (by kernel_rfl) ?_ rfl (by intro p hp; cases hp) ?_ ?_
  · intro n k hk
    have hlt : n < 0 := by
      rcases Nat.lt_or_ge n 0 with h | h
      · exact h
      · rw [List.getElem?_eq_none h] at hk; cases hk
    omega
  · intro ρ hag
    show some ([] : List Value) = _
    rfl
  · intro ρ hag
    simp only [sT_kall, Tr.asks, eqs, E.I, E.B, E.L, V.den, C.den, denL, den0, den0L, Option.map_some, Nat.add_zero, Nat.reduceAdd, and_true, Sc.eta_r, Sc.eta_k, Sc.eta_2]
    all_goals
      refine congrArg some ?_
      rfl
def sM_kall (key : Nat) : Sm := ⟨91, key, [], [(true, [.int .u64, .int .u64])], false⟩
def sI_kall : Nat → List Int → Int
  | 0, [] => kall.v
  | 1, [] => kall.m
  | _, _ => 0
def sB_kall : Nat → List Int → Bool
  | _, _ => false
theorem sK_kall {sp : Spec} {key : Nat} (hI : sp.I key = sI_kall) (hB : sp.B key = sB_kall) : SmOk Try.prog sp (sM_kall key) := by
  refine SmOk.of (.inl ⟨run_enter Try.func91 (by kernel_rfl) (by kernel_rfl), fun xs vals h => ?_⟩) (.inr (.inl ⟨_, rfl⟩))
  obtain ⟨rfl, rfl⟩ := shN h
  refine ⟨_, sX_kall , fun ρ v0 he => ?_⟩
  have he' : ρ.i (v0 + 0) = sp.I key 0 [] ∧ ρ.i (v0 + 1) = sp.I key 1 [] ∧ True := he
  simp only [hI, hB] at he'
  obtain ⟨e0, e1, -⟩ := he'
  show some (.agg #[.int .u64 (ρ.i (v0 + 0)), .int .u64 (ρ.i (v0 + 1))] : Value) = _
  rw [e0, e1]
  rfl
def sT_kone : Tr :=
(.leaf (.agg [.int .u64 (.var 0), .int .u64 (.lit 0)]))
def sP_kone : Spec := ⟨fun k => match k with | _ => fun _ _ => 0, fun k => match k with | _ => fun _ _ => false⟩
set_option maxRecDepth 100000 in
theorem sR_kone : funK ⟨tys_VaA, []⟩ 200 Try.f90 [.one (.int .u64 (.var 0))] ⟨[], [], [some .u64]⟩ = sT_kone := by kernel_rfl
set_option maxRecDepth 100000 in
set_option maxHeartbeats 8000000 in
theorem sX_kone (v : Int) (hv : inK .u64 v = true) : (∀ w, Calls Try.prog 90 #[.int .u64 v] w fun e w' => e = .returned (.agg #[.int .u64 (kone v).v, .int .u64 (kone v).m]) ∧ Ext w w') ∧ valIn (.agg #[.int .u64 (kone v).v, .int .u64 (kone v).m]) = true := by
  refine fun_calls (cx := ⟨tys_VaA, []⟩) (sp := sP_kone) (t := sT_kone) (by kernel_rfl) tysok_VaA (fun _ h => (by cases h)) (keys_of (by kernel_rfl)) Try.func90 ⟨fun n => ([v] : List Int).getD n 0, fun n => ([false] : List Bool).getD n false⟩ sR_kone (by kernel_rfl) ?_ rfl (by intro p hp; cases hp) ?_ ?_
  · intro n k hk
    have hlt : n < 1 := by
      rcases Nat.lt_or_ge n 1 with h | h
      · exact h
      · rw [List.getElem?_eq_none h] at hk; cases hk
    rcases (show n = 0 by omega) with rfl
    · cases hk; exact hv
  · intro ρ hag
    have g0 : ρ.i 0 = v := (hag 0 (by decide)).1.symm
    show some ([.int .u64 (ρ.i 0)] : List Value) = _
    rw [g0]
  · intro ρ hag
    have g0 : ρ.i 0 = v := (hag 0 (by decide)).1.symm
    simp only [sT_kone, Tr.asks, eqs, E.I, E.B, E.L, V.den, C.den, denL, den0, den0L, Option.map_some, Nat.add_zero, Nat.reduceAdd, and_true, Sc.eta_r, Sc.eta_k, Sc.eta_2, g0]
    all_goals
      refine congrArg some ?_
      rfl
def sM_kone (key : Nat) : Sm := ⟨90, key, [(false, [.int .u64])], [(true, [.int .u64, .int .u64])], false⟩
def sI_kone : Nat → List Int → Int
  | 0, [x0] => (fun (v : Int) => (kone v).v) x0
  | 1, [x0] => (fun (v : Int) => (kone v).m) x0
  | _, _ => 0
def sB_kone : Nat → List Int → Bool
  | _, _ => false
theorem sK_kone {sp : Spec} {key : Nat} (hI : sp.I key = sI_kone) (hB : sp.B key = sB_kone) : SmOk Try.prog sp (sM_kone key) := by
  refine SmOk.of (.inl ⟨run_enter Try.func90 (by kernel_rfl) (by kernel_rfl), fun xs vals h => ?_⟩) (.inr (.inl ⟨_, rfl⟩))
  obtain ⟨_, _, _, d1, h1, rfl⟩ := shO h
  obtain ⟨x0, rfl, rfl, gx0⟩ := ckI d1
  obtain ⟨rfl, rfl⟩ := shN h1
  refine ⟨_, sX_kone x0 gx0, fun ρ v0 he => ?_⟩
  have he' : ρ.i (v0 + 0) = sp.I key 0 [x0] ∧ ρ.i (v0 + 1) = sp.I key 1 [x0] ∧ True := he
  simp only [hI, hB] at he'
  obtain ⟨e0, e1, -⟩ := he'
  show some (.agg #[.int .u64 (ρ.i (v0 + 0)), .int .u64 (ρ.i (v0 + 1))] : Value) = _
  rw [e0, e1]
  rfl
def sT_khas : Tr :=
(.call 0 [.bool] (.cons (.var 0) (.cons (.var 1) .nil)) 3
 (.br (.bvar 3)
 (.leaf (.one (.bool (.eq (.bin .andNot .u64 (.var 2) (.var 1)) (.var 0)))))
 (.leaf (.one (.bool (.tt false))))))
def sP_khas : Spec := ⟨fun k => match k with | 0 => sI_kmay | _ => fun _ _ => 0, fun k => match k with | 0 => sB_kmay | _ => fun _ _ => false⟩
set_option maxRecDepth 100000 in
theorem sR_khas : funK ⟨tys_VaA, [sM_kmay 0]⟩ 200 Try.f92 [.agg [.int .u64 (.var 0), .int .u64 (.var 1)], .one (.int .u64 (.var 2))] ⟨[], [], [some .u64, some .u64, some .u64]⟩ = sT_khas := by kernel_rfl
set_option maxRecDepth 100000 in
set_option maxHeartbeats 8000000 in
theorem sX_khas (a : Kn) (ha : Kn.ok a) (v : Int) (hv : inK .u64 v = true) : (∀ w, Calls Try.prog 92 #[.agg #[.int .u64 a.v, .int .u64 a.m], .int .u64 v] w fun e w' => e = .returned (.bool (khas a v)) ∧ Ext w w') ∧ valIn (.bool (khas a v)) = true := by
  refine fun_calls (cx := ⟨tys_VaA, [sM_kmay 0]⟩) (sp := sP_khas) (t := sT_khas) (by kernel_rfl) tysok_VaA (List.forall_mem_cons.2 ⟨sK_kmay rfl rfl, fun _ h => (by cases h)⟩) (keys_of (by kernel_rfl)) Try.func92 ⟨fun n => ([a.v, a.m, v] : List Int).getD n 0, fun n => ([false, false, false] : List Bool).getD n false⟩ sR_khas (by kernel_rfl) ?_ rfl (by intro p hp; cases hp) ?_ ?_
  · intro n k hk
    have hlt : n < 3 := by
      rcases Nat.lt_or_ge n 3 with h | h
      · exact h
      · rw [List.getElem?_eq_none h] at hk; cases hk
    rcases (show n = 0 ∨ n = 1 ∨ n = 2 by omega) with rfl | rfl | rfl
    · cases hk; exact ha.1
    · cases hk; exact ha.2
    · cases hk; exact hv
  · intro ρ hag
    have g0 : ρ.i 0 = a.v := (hag 0 (by decide)).1.symm
    have g1 : ρ.i 1 = a.m := (hag 1 (by decide)).1.symm
    have g2 : ρ.i 2 = v := (hag 2 (by decide)).1.symm
    show some ([.agg #[.int .u64 (ρ.i 0), .int .u64 (ρ.i 1)], .int .u64 (ρ.i 2)] : List Value) = _
    rw [g0, g1, g2]
  · intro ρ hag
    have g0 : ρ.i 0 = a.v := (hag 0 (by decide)).1.symm
    have g1 : ρ.i 1 = a.m := (hag 1 (by decide)).1.symm
    have g2 : ρ.i 2 = v := (hag 2 (by decide)).1.symm
    simp only [sT_khas, Tr.asks, eqs, E.I, E.B, E.L, V.den, C.den, denL, den0, den0L, Option.map_some, Nat.add_zero, Nat.reduceAdd, and_true, Kn.eta, Sc.eta_r, Sc.eta_k, Sc.eta_2, g0, g1, g2]
    simp only [sP_khas, b01, Kn.eta, Pi.eta, Pu.eta, Rg.eta, Sc.eta, Sc.eta_r, Sc.eta_k, Sc.eta_2, sI_kmay, sB_kmay]
    intro e3
    (try simp only [e3, Kn.eta, Pi.eta, Pu.eta, Rg.eta, Sc.eta, Sc.eta_r, Sc.eta_k, Sc.eta_2])
    (try clear e3)
    refine ⟨fun c0 => ?_, fun c0 => ?_⟩
    · skip
      all_goals
        refine congrArg some ?_
        (unfold khas; simp_all [opI])
    · skip
      all_goals
        refine congrArg some ?_
        (unfold khas; simp_all [opI])
def sM_khas (key : Nat) : Sm := ⟨92, key, [(true, [.int .u64, .int .u64]), (false, [.int .u64])], [(false, [.bool])], false⟩
def sI_khas : Nat → List Int → Int
  | _, _ => 0
def sB_khas : Nat → List Int → Bool
  | 0, [x0, x1, x2] => (fun (a : Kn) (v : Int) => khas a v) ⟨x0, x1⟩ x2
  | _, _ => false
theorem sK_khas {sp : Spec} {key : Nat} (hI : sp.I key = sI_khas) (hB : sp.B key = sB_khas) : SmOk Try.prog sp (sM_khas key) := by
  refine SmOk.of (.inl ⟨run_enter Try.func92 (by kernel_rfl) (by kernel_rfl), fun xs vals h => ?_⟩) (.inr (.inr ⟨_, rfl⟩))
  obtain ⟨_, _, _, p1, h1, rfl⟩ := shA h
  obtain ⟨_, _, _, d1_0, p1_0, rfl⟩ := cksC p1
  obtain ⟨x0, rfl, rfl, gx0⟩ := ckI d1_0
  obtain ⟨_, _, _, d1_1, p1_1, rfl⟩ := cksC p1_0
  obtain ⟨x1, rfl, rfl, gx1⟩ := ckI d1_1
  obtain ⟨rfl, rfl⟩ := cksN p1_1
  obtain ⟨_, _, _, d2, h2, rfl⟩ := shO h1
  obtain ⟨x2, rfl, rfl, gx2⟩ := ckI d2
  obtain ⟨rfl, rfl⟩ := shN h2
  refine ⟨_, sX_khas ⟨x0, x1⟩ ⟨gx0, gx1⟩ x2 gx2, fun ρ v0 he => ?_⟩
  have he' : ρ.b (v0 + 0) = sp.B key 0 [x0, x1, x2] ∧ True := he
  simp only [hI, hB] at he'
  obtain ⟨e0, -⟩ := he'
  show some (.bool (ρ.b (v0 + 0)) : Value) = _
  rw [e0]
  rfl
def sT_kmask : Tr :=
(.leaf (.agg [.int .u64 (.bin .andNot .u64 (.var 0) (.var 1)), .int .u64 (.var 1)]))
def sP_kmask : Spec := ⟨fun k => match k with | _ => fun _ _ => 0, fun k => match k with | _ => fun _ _ => false⟩
set_option maxRecDepth 100000 in
theorem sR_kmask : funK ⟨tys_VaA, []⟩ 200 Try.f125 [.one (.int .u64 (.var 0)), .one (.int .u64 (.var 1))] ⟨[], [], [some .u64, some .u64]⟩ = sT_kmask := by kernel_rfl
set_option maxRecDepth 100000 in
set_option maxHeartbeats 8000000 in
theorem sX_kmask (v : Int) (hv : inK .u64 v = true) (m : Int) (hm : inK .u64 m = true) : (∀ w, Calls Try.prog 125 #[.int .u64 v, .int .u64 m] w fun e w' => e = .returned (.agg #[.int .u64 (kmask v m).v, .int .u64 (kmask v m).m]) ∧ Ext w w') ∧ valIn (.agg #[.int .u64 (kmask v m).v, .int .u64 (kmask v m).m]) = true := by
  refine fun_calls (cx := ⟨tys_VaA, []⟩) (sp := sP_kmask) (t := sT_kmask) (by kernel_rfl) tysok_VaA (fun _ h => (by cases h)) (keys_of (by kernel_rfl)) Try.func125 ⟨fun n => ([v, m] : List Int).getD n 0, fun n => ([false, false] : List Bool).getD n false⟩ sR_kmask (by kernel_rfl) ?_ rfl (by intro p hp; cases hp) ?_ ?_
  · intro n k hk
    have hlt : n < 2 := by
      rcases Nat.lt_or_ge n 2 with h | h
      · exact h
      · rw [List.getElem?_eq_none h] at hk; cases hk
    rcases (show n = 0 ∨ n = 1 by omega) with rfl | rfl
    · cases hk; exact hv
    · cases hk; exact hm
  · intro ρ hag
    have g0 : ρ.i 0 = v := (hag 0 (by decide)).1.symm
    have g1 : ρ.i 1 = m := (hag 1 (by decide)).1.symm
    show some ([.int .u64 (ρ.i 0), .int .u64 (ρ.i 1)] : List Value) = _
    rw [g0, g1]
  · intro ρ hag
    have g0 : ρ.i 0 = v := (hag 0 (by decide)).1.symm
    have g1 : ρ.i 1 = m := (hag 1 (by decide)).1.symm
    simp only [sT_kmask, Tr.asks, eqs, E.I, E.B, E.L, V.den, C.den, denL, den0, den0L, Option.map_some, Nat.add_zero, Nat.reduceAdd, and_true, Sc.eta_r, Sc.eta_k, Sc.eta_2, g0, g1]
    all_goals
      refine congrArg some ?_
      rfl
def sM_kmask (key : Nat) : Sm := ⟨125, key, [(false, [.int .u64]), (false, [.int .u64])], [(true, [.int .u64, .int .u64])], false⟩
def sI_kmask : Nat → List Int → Int
  | 0, [x0, x1] => (fun (v : Int) (m : Int) => (kmask v m).v) x0 x1
  | 1, [x0, x1] => (fun (v : Int) (m : Int) => (kmask v m).m) x0 x1
  | _, _ => 0
def sB_kmask : Nat → List Int → Bool
  | _, _ => false
theorem sK_kmask {sp : Spec} {key : Nat} (hI : sp.I key = sI_kmask) (hB : sp.B key = sB_kmask) : SmOk Try.prog sp (sM_kmask key) := by
  refine SmOk.of (.inl ⟨run_enter Try.func125 (by kernel_rfl) (by kernel_rfl), fun xs vals h => ?_⟩) (.inr (.inl ⟨_, rfl⟩))
  obtain ⟨_, _, _, d1, h1, rfl⟩ := shO h
  obtain ⟨x0, rfl, rfl, gx0⟩ := ckI d1
  obtain ⟨_, _, _, d2, h2, rfl⟩ := shO h1
  obtain ⟨x1, rfl, rfl, gx1⟩ := ckI d2
  obtain ⟨rfl, rfl⟩ := shN h2
  refine ⟨_, sX_kmask x0 gx0 x1 gx1, fun ρ v0 he => ?_⟩
  have he' : ρ.i (v0 + 0) = sp.I key 0 [x0, x1] ∧ ρ.i (v0 + 1) = sp.I key 1 [x0, x1] ∧ True := he
  simp only [hI, hB] at he'
  obtain ⟨e0, e1, -⟩ := he'
  show some (.agg #[.int .u64 (ρ.i (v0 + 0)), .int .u64 (ρ.i (v0 + 1))] : Value) = _
  rw [e0, e1]
  rfl
def sT_kjoin : Tr :=
(.call 0 [.bool] (.cons (.var 0) (.cons (.var 1) .nil)) 4
 (.br (.bvar 4)
 (.call 0 [.bool] (.cons (.var 2) (.cons (.var 3) .nil)) 5
  (.br (.bvar 5)
  (.call 2 [.int .u64, .int .u64] (.cons (.var 0) (.cons (.bin .or .u64 (.bin .or .u64 (.var 1) (.var 3)) (.bin .xor .u64 (.var 0) (.var 2))) .nil)) 6
   (.leaf (.agg [.int .u64 (.var 6), .int .u64 (.var 7)])))
  (.call 1 [.int .u64, .int .u64] .nil 6
   (.leaf (.agg [.int .u64 (.var 6), .int .u64 (.var 7)])))))
 (.call 1 [.int .u64, .int .u64] .nil 5
  (.leaf (.agg [.int .u64 (.var 5), .int .u64 (.var 6)])))))
def sP_kjoin : Spec := ⟨fun k => match k with | 0 => sI_kmay | 1 => sI_kall | 2 => sI_kmask | _ => fun _ _ => 0, fun k => match k with | 0 => sB_kmay | 1 => sB_kall | 2 => sB_kmask | _ => fun _ _ => false⟩
set_option maxRecDepth 100000 in
theorem sR_kjoin : funK ⟨tys_VaA, [sM_kmay 0, sM_kall 1, sM_kmask 2]⟩ 200 Try.f96 [.agg [.int .u64 (.var 0), .int .u64 (.var 1)], .agg [.int .u64 (.var 2), .int .u64 (.var 3)]] ⟨[], [], [some .u64, some .u64, some .u64, some .u64]⟩ = sT_kjoin := by kernel_rfl
set_option maxRecDepth 100000 in
set_option maxHeartbeats 8000000 in
theorem sX_kjoin (a : Kn) (ha : Kn.ok a) (b : Kn) (hb : Kn.ok b) : (∀ w, Calls Try.prog 96 #[.agg #[.int .u64 a.v, .int .u64 a.m], .agg #[.int .u64 b.v, .int .u64 b.m]] w fun e w' => e = .returned (.agg #[.int .u64 (kjoin a b).v, .int .u64 (kjoin a b).m]) ∧ Ext w w') ∧ valIn (.agg #[.int .u64 (kjoin a b).v, .int .u64 (kjoin a b).m]) = true := by
  refine fun_calls (cx := ⟨tys_VaA, [sM_kmay 0, sM_kall 1, sM_kmask 2]⟩) (sp := sP_kjoin) (t := sT_kjoin) (by kernel_rfl) tysok_VaA (List.forall_mem_cons.2 ⟨sK_kmay rfl rfl, List.forall_mem_cons.2 ⟨sK_kall rfl rfl, List.forall_mem_cons.2 ⟨sK_kmask rfl rfl, fun _ h => (by cases h)⟩⟩⟩) (keys_of (by kernel_rfl)) Try.func96 ⟨fun n => ([a.v, a.m, b.v, b.m] : List Int).getD n 0, fun n => ([false, false, false, false] : List Bool).getD n false⟩ sR_kjoin (by kernel_rfl) ?_ rfl (by intro p hp; cases hp) ?_ ?_
  · intro n k hk
    have hlt : n < 4 := by
      rcases Nat.lt_or_ge n 4 with h | h
      · exact h
      · rw [List.getElem?_eq_none h] at hk; cases hk
    rcases (show n = 0 ∨ n = 1 ∨ n = 2 ∨ n = 3 by omega) with rfl | rfl | rfl | rfl
    · cases hk; exact ha.1
    · cases hk; exact ha.2
    · cases hk; exact hb.1
    · cases hk; exact hb.2
  · intro ρ hag
    have g0 : ρ.i 0 = a.v := (hag 0 (by decide)).1.symm
    have g1 : ρ.i 1 = a.m := (hag 1 (by decide)).1.symm
    have g2 : ρ.i 2 = b.v := (hag 2 (by decide)).1.symm
    have g3 : ρ.i 3 = b.m := (hag 3 (by decide)).1.symm
    show some ([.agg #[.int .u64 (ρ.i 0), .int .u64 (ρ.i 1)], .agg #[.int .u64 (ρ.i 2), .int .u64 (ρ.i 3)]] : List Value) = _
    rw [g0, g1, g2, g3]
  · intro ρ hag
    have g0 : ρ.i 0 = a.v := (hag 0 (by decide)).1.symm
    have g1 : ρ.i 1 = a.m := (hag 1 (by decide)).1.symm
    have g2 : ρ.i 2 = b.v := (hag 2 (by decide)).1.symm
    have g3 : ρ.i 3 = b.m := (hag 3 (by decide)).1.symm
    simp only [sT_kjoin, Tr.asks, eqs, E.I, E.B, E.L, V.den, C.den, denL, den0, den0L, Option.map_some, Nat.add_zero, Nat.reduceAdd, and_true, Kn.eta, Sc.eta_r, Sc.eta_k, Sc.eta_2, g0, g1, g2, g3]
    simp only [sP_kjoin, b01, Kn.eta, Pi.eta, Pu.eta, Rg.eta, Sc.eta, Sc.eta_r, Sc.eta_k, Sc.eta_2, sI_kmay, sB_kmay, sI_kall, sB_kall, sI_kmask, sB_kmask]
    intro e4
    (try simp only [e4, Kn.eta, Pi.eta, Pu.eta, Rg.eta, Sc.eta, Sc.eta_r, Sc.eta_k, Sc.eta_2])
    (try clear e4)
    refine ⟨fun c0 => ?_, fun c0 => ?_⟩
    · skip
      intro e5
      (try simp only [e5, Kn.eta, Pi.eta, Pu.eta, Rg.eta, Sc.eta, Sc.eta_r, Sc.eta_k, Sc.eta_2])
      (try clear e5)
      refine ⟨fun c1 => ?_, fun c1 => ?_⟩
      · skip
        rintro ⟨e6, e7⟩
        (try simp only [e6, e7, Kn.eta, Pi.eta, Pu.eta, Rg.eta, Sc.eta, Sc.eta_r, Sc.eta_k, Sc.eta_2])
        (try clear e6 e7)
        all_goals
          refine congrArg some ?_
          (unfold kjoin; simp_all [opI])
      · skip
        rintro ⟨e6, e7⟩
        (try simp only [e6, e7, Kn.eta, Pi.eta, Pu.eta, Rg.eta, Sc.eta, Sc.eta_r, Sc.eta_k, Sc.eta_2])
        (try clear e6 e7)
        all_goals
          refine congrArg some ?_
          (unfold kjoin; simp_all [opI])
    · skip
      rintro ⟨e5, e6⟩
      (try simp only [e5, e6, Kn.eta, Pi.eta, Pu.eta, Rg.eta, Sc.eta, Sc.eta_r, Sc.eta_k, Sc.eta_2])
      (try clear e5 e6)
      all_goals
        refine congrArg some ?_
        (unfold kjoin; simp_all [opI])
def sM_kjoin (key : Nat) : Sm := ⟨96, key, [(true, [.int .u64, .int .u64]), (true, [.int .u64, .int .u64])], [(true, [.int .u64, .int .u64])], false⟩
def sI_kjoin : Nat → List Int → Int
  | 0, [x0, x1, x2, x3] => (fun (a : Kn) (b : Kn) => (kjoin a b).v) ⟨x0, x1⟩ ⟨x2, x3⟩
  | 1, [x0, x1, x2, x3] => (fun (a : Kn) (b : Kn) => (kjoin a b).m) ⟨x0, x1⟩ ⟨x2, x3⟩
  | _, _ => 0
def sB_kjoin : Nat → List Int → Bool
  | _, _ => false
theorem sK_kjoin {sp : Spec} {key : Nat} (hI : sp.I key = sI_kjoin) (hB : sp.B key = sB_kjoin) : SmOk Try.prog sp (sM_kjoin key) := by
  refine SmOk.of (.inl ⟨run_enter Try.func96 (by kernel_rfl) (by kernel_rfl), fun xs vals h => ?_⟩) (.inr (.inl ⟨_, rfl⟩))
  obtain ⟨_, _, _, p1, h1, rfl⟩ := shA h
  obtain ⟨_, _, _, d1_0, p1_0, rfl⟩ := cksC p1
  obtain ⟨x0, rfl, rfl, gx0⟩ := ckI d1_0
  obtain ⟨_, _, _, d1_1, p1_1, rfl⟩ := cksC p1_0
  obtain ⟨x1, rfl, rfl, gx1⟩ := ckI d1_1
  obtain ⟨rfl, rfl⟩ := cksN p1_1
  obtain ⟨_, _, _, p2, h2, rfl⟩ := shA h1
  obtain ⟨_, _, _, d2_0, p2_0, rfl⟩ := cksC p2
  obtain ⟨x2, rfl, rfl, gx2⟩ := ckI d2_0
  obtain ⟨_, _, _, d2_1, p2_1, rfl⟩ := cksC p2_0
  obtain ⟨x3, rfl, rfl, gx3⟩ := ckI d2_1
  obtain ⟨rfl, rfl⟩ := cksN p2_1
  obtain ⟨rfl, rfl⟩ := shN h2
  refine ⟨_, sX_kjoin ⟨x0, x1⟩ ⟨gx0, gx1⟩ ⟨x2, x3⟩ ⟨gx2, gx3⟩, fun ρ v0 he => ?_⟩
  have he' : ρ.i (v0 + 0) = sp.I key 0 [x0, x1, x2, x3] ∧ ρ.i (v0 + 1) = sp.I key 1 [x0, x1, x2, x3] ∧ True := he
  simp only [hI, hB] at he'
  obtain ⟨e0, e1, -⟩ := he'
  show some (.agg #[.int .u64 (ρ.i (v0 + 0)), .int .u64 (ρ.i (v0 + 1))] : Value) = _
  rw [e0, e1]
  rfl
def sT_kmeet : Tr :=
(.call 0 [.bool] (.cons (.var 0) (.cons (.var 1) .nil)) 4
 (.br (.bvar 4)
 (.call 0 [.bool] (.cons (.var 2) (.cons (.var 3) .nil)) 5
  (.br (.bvar 5)
  (.br (.eq (.bin .andNot .u64 (.bin .xor .u64 (.var 0) (.var 2)) (.bin .or .u64 (.var 1) (.var 3))) (.lit 0))
   (.call 2 [.int .u64, .int .u64] (.cons (.bin .or .u64 (.var 0) (.var 2)) (.cons (.bin .and .u64 (.var 1) (.var 3)) .nil)) 6
    (.leaf (.tup [(true, [.int .u64 (.var 6), .int .u64 (.var 7)]), (false, [.bool (.tt true)])])))
   (.call 1 [.int .u64, .int .u64] .nil 6
    (.leaf (.tup [(true, [.int .u64 (.var 6), .int .u64 (.var 7)]), (false, [.bool (.tt false)])]))))
  (.call 1 [.int .u64, .int .u64] .nil 6
   (.leaf (.tup [(true, [.int .u64 (.var 6), .int .u64 (.var 7)]), (false, [.bool (.tt false)])])))))
 (.call 1 [.int .u64, .int .u64] .nil 5
  (.leaf (.tup [(true, [.int .u64 (.var 5), .int .u64 (.var 6)]), (false, [.bool (.tt false)])])))))
def sP_kmeet : Spec := ⟨fun k => match k with | 0 => sI_kmay | 1 => sI_kall | 2 => sI_kmask | _ => fun _ _ => 0, fun k => match k with | 0 => sB_kmay | 1 => sB_kall | 2 => sB_kmask | _ => fun _ _ => false⟩
set_option maxRecDepth 100000 in
theorem sR_kmeet : funK ⟨tys_VaA, [sM_kmay 0, sM_kall 1, sM_kmask 2]⟩ 200 Try.f93 [.agg [.int .u64 (.var 0), .int .u64 (.var 1)], .agg [.int .u64 (.var 2), .int .u64 (.var 3)]] ⟨[], [], [some .u64, some .u64, some .u64, some .u64]⟩ = sT_kmeet := by kernel_rfl
set_option maxRecDepth 100000 in
set_option maxHeartbeats 8000000 in
theorem sX_kmeet (a : Kn) (ha : Kn.ok a) (b : Kn) (hb : Kn.ok b) : (∀ w, Calls Try.prog 93 #[.agg #[.int .u64 a.v, .int .u64 a.m], .agg #[.int .u64 b.v, .int .u64 b.m]] w fun e w' => e = .returned (.tuple #[.agg #[.int .u64 (kmeet a b).v, .int .u64 (kmeet a b).m], .bool (kmeets a b)]) ∧ Ext w w') ∧ valIn (.tuple #[.agg #[.int .u64 (kmeet a b).v, .int .u64 (kmeet a b).m], .bool (kmeets a b)]) = true := by
  refine fun_calls (cx := ⟨tys_VaA, [sM_kmay 0, sM_kall 1, sM_kmask 2]⟩) (sp := sP_kmeet) (t := sT_kmeet) (by kernel_rfl) tysok_VaA (List.forall_mem_cons.2 ⟨sK_kmay rfl rfl, List.forall_mem_cons.2 ⟨sK_kall rfl rfl, List.forall_mem_cons.2 ⟨sK_kmask rfl rfl, fun _ h => (by cases h)⟩⟩⟩) (keys_of (by kernel_rfl)) Try.func93 ⟨fun n => ([a.v, a.m, b.v, b.m] : List Int).getD n 0, fun n => ([false, false, false, false] : List Bool).getD n false⟩ sR_kmeet (by kernel_rfl) ?_ rfl (by intro p hp; cases hp) ?_ ?_
  · intro n k hk
    have hlt : n < 4 := by
      rcases Nat.lt_or_ge n 4 with h | h
      · exact h
      · rw [List.getElem?_eq_none h] at hk; cases hk
    rcases (show n = 0 ∨ n = 1 ∨ n = 2 ∨ n = 3 by omega) with rfl | rfl | rfl | rfl
    · cases hk; exact ha.1
    · cases hk; exact ha.2
    · cases hk; exact hb.1
    · cases hk; exact hb.2
  · intro ρ hag
    have g0 : ρ.i 0 = a.v := (hag 0 (by decide)).1.symm
    have g1 : ρ.i 1 = a.m := (hag 1 (by decide)).1.symm
    have g2 : ρ.i 2 = b.v := (hag 2 (by decide)).1.symm
    have g3 : ρ.i 3 = b.m := (hag 3 (by decide)).1.symm
    show some ([.agg #[.int .u64 (ρ.i 0), .int .u64 (ρ.i 1)], .agg #[.int .u64 (ρ.i 2), .int .u64 (ρ.i 3)]] : List Value) = _
    rw [g0, g1, g2, g3]
  · intro ρ hag
    have g0 : ρ.i 0 = a.v := (hag 0 (by decide)).1.symm
    have g1 : ρ.i 1 = a.m := (hag 1 (by decide)).1.symm
    have g2 : ρ.i 2 = b.v := (hag 2 (by decide)).1.symm
    have g3 : ρ.i 3 = b.m := (hag 3 (by decide)).1.symm
    simp only [sT_kmeet, Tr.asks, eqs, E.I, E.B, E.L, V.den, C.den, denL, den0, den0L, Option.map_some, Nat.add_zero, Nat.reduceAdd, and_true, Kn.eta, Sc.eta_r, Sc.eta_k, Sc.eta_2, g0, g1, g2, g3]
    simp only [sP_kmeet, b01, Kn.eta, Pi.eta, Pu.eta, Rg.eta, Sc.eta, Sc.eta_r, Sc.eta_k, Sc.eta_2, sI_kmay, sB_kmay, sI_kall, sB_kall, sI_kmask, sB_kmask]
    intro e4
    (try simp only [e4, Kn.eta, Pi.eta, Pu.eta, Rg.eta, Sc.eta, Sc.eta_r, Sc.eta_k, Sc.eta_2])
    (try clear e4)
    refine ⟨fun c0 => ?_, fun c0 => ?_⟩
    · skip
      intro e5
      (try simp only [e5, Kn.eta, Pi.eta, Pu.eta, Rg.eta, Sc.eta, Sc.eta_r, Sc.eta_k, Sc.eta_2])
      (try clear e5)
      refine ⟨fun c1 => ?_, fun c1 => ?_⟩
      · skip
        refine ⟨fun c2 => ?_, fun c2 => ?_⟩
        · skip
          rintro ⟨e6, e7⟩
          (try simp only [e6, e7, Kn.eta, Pi.eta, Pu.eta, Rg.eta, Sc.eta, Sc.eta_r, Sc.eta_k, Sc.eta_2])
          (try clear e6 e7)
          all_goals
            refine congrArg some ?_
            (unfold kmeet kmeets kodds; simp_all [opI])
        · skip
          rintro ⟨e6, e7⟩
          (try simp only [e6, e7, Kn.eta, Pi.eta, Pu.eta, Rg.eta, Sc.eta, Sc.eta_r, Sc.eta_k, Sc.eta_2])
          (try clear e6 e7)
          all_goals
            refine congrArg some ?_
            (unfold kmeet kmeets kodds; simp_all [opI])
      · skip
        rintro ⟨e6, e7⟩
        (try simp only [e6, e7, Kn.eta, Pi.eta, Pu.eta, Rg.eta, Sc.eta, Sc.eta_r, Sc.eta_k, Sc.eta_2])
        (try clear e6 e7)
        all_goals
          refine congrArg some ?_
          (unfold kmeet kmeets kodds; simp_all [opI])
    · skip
      rintro ⟨e5, e6⟩
      (try simp only [e5, e6, Kn.eta, Pi.eta, Pu.eta, Rg.eta, Sc.eta, Sc.eta_r, Sc.eta_k, Sc.eta_2])
      (try clear e5 e6)
      all_goals
        refine congrArg some ?_
        (unfold kmeet kmeets kodds; simp_all [opI])
def sM_kmeet (key : Nat) : Sm := ⟨93, key, [(true, [.int .u64, .int .u64]), (true, [.int .u64, .int .u64])], [(true, [.int .u64, .int .u64]), (false, [.bool])], true⟩
def sI_kmeet : Nat → List Int → Int
  | 0, [x0, x1, x2, x3] => (fun (a : Kn) (b : Kn) => (kmeet a b).v) ⟨x0, x1⟩ ⟨x2, x3⟩
  | 1, [x0, x1, x2, x3] => (fun (a : Kn) (b : Kn) => (kmeet a b).m) ⟨x0, x1⟩ ⟨x2, x3⟩
  | _, _ => 0
def sB_kmeet : Nat → List Int → Bool
  | 2, [x0, x1, x2, x3] => (fun (a : Kn) (b : Kn) => kmeets a b) ⟨x0, x1⟩ ⟨x2, x3⟩
  | _, _ => false
theorem sK_kmeet {sp : Spec} {key : Nat} (hI : sp.I key = sI_kmeet) (hB : sp.B key = sB_kmeet) : SmOk Try.prog sp (sM_kmeet key) := by
  refine SmOk.of (.inl ⟨run_enter Try.func93 (by kernel_rfl) (by kernel_rfl), fun xs vals h => ?_⟩) (.inl rfl)
  obtain ⟨_, _, _, p1, h1, rfl⟩ := shA h
  obtain ⟨_, _, _, d1_0, p1_0, rfl⟩ := cksC p1
  obtain ⟨x0, rfl, rfl, gx0⟩ := ckI d1_0
  obtain ⟨_, _, _, d1_1, p1_1, rfl⟩ := cksC p1_0
  obtain ⟨x1, rfl, rfl, gx1⟩ := ckI d1_1
  obtain ⟨rfl, rfl⟩ := cksN p1_1
  obtain ⟨_, _, _, p2, h2, rfl⟩ := shA h1
  obtain ⟨_, _, _, d2_0, p2_0, rfl⟩ := cksC p2
  obtain ⟨x2, rfl, rfl, gx2⟩ := ckI d2_0
  obtain ⟨_, _, _, d2_1, p2_1, rfl⟩ := cksC p2_0
  obtain ⟨x3, rfl, rfl, gx3⟩ := ckI d2_1
  obtain ⟨rfl, rfl⟩ := cksN p2_1
  obtain ⟨rfl, rfl⟩ := shN h2
  refine ⟨_, sX_kmeet ⟨x0, x1⟩ ⟨gx0, gx1⟩ ⟨x2, x3⟩ ⟨gx2, gx3⟩, fun ρ v0 he => ?_⟩
  have he' : ρ.i (v0 + 0) = sp.I key 0 [x0, x1, x2, x3] ∧ ρ.i (v0 + 1) = sp.I key 1 [x0, x1, x2, x3] ∧ ρ.b (v0 + 2) = sp.B key 2 [x0, x1, x2, x3] ∧ True := he
  simp only [hI, hB] at he'
  obtain ⟨e0, e1, e2, -⟩ := he'
  show some (.tuple #[.agg #[.int .u64 (ρ.i (v0 + 0)), .int .u64 (ρ.i (v0 + 1))], .bool (ρ.b (v0 + 2))] : Value) = _
  rw [e0, e1, e2]
  rfl
theorem sX_bcut (x : Int) (hx : inK .u64 x = true) (l : Int) (hl : inK .i8 l = true) : (∀ w, Calls Try.prog 79 #[.int .u64 x, .int .i8 l] w fun e w' => e = .returned (.int .u64 (zcut x l)) ∧ Ext w w') ∧ valIn (.int .u64 (zcut x l)) = true := by
  have g := inK_u64 hx
  have hz := u64_inK (zcut_bd x l g.1 g.2)
  exact ⟨fun W => (cut_any x l W g.1 g.2).mono (by rintro e w' ⟨rfl, rfl⟩; exact ⟨rfl, Ext.refl _⟩), hz⟩
def sM_bcut (key : Nat) : Sm := ⟨79, key, [(false, [.int .u64]), (false, [.int .i8])], [(false, [.int .u64])], false⟩
def sI_bcut : Nat → List Int → Int
  | 0, [x0, x1] => (fun (x : Int) (l : Int) => zcut x l) x0 x1
  | _, _ => 0
def sB_bcut : Nat → List Int → Bool
  | _, _ => false
theorem sK_bcut {sp : Spec} {key : Nat} (hI : sp.I key = sI_bcut) (hB : sp.B key = sB_bcut) : SmOk Try.prog sp (sM_bcut key) := by
  refine SmOk.of (.inl ⟨run_enter Try.func79 (by kernel_rfl) (by kernel_rfl), fun xs vals h => ?_⟩) (.inr (.inr ⟨_, rfl⟩))
  obtain ⟨_, _, _, d1, h1, rfl⟩ := shO h
  obtain ⟨x0, rfl, rfl, gx0⟩ := ckI d1
  obtain ⟨_, _, _, d2, h2, rfl⟩ := shO h1
  obtain ⟨x1, rfl, rfl, gx1⟩ := ckI d2
  obtain ⟨rfl, rfl⟩ := shN h2
  refine ⟨_, sX_bcut x0 gx0 x1 gx1, fun ρ v0 he => ?_⟩
  have he' : ρ.i (v0 + 0) = sp.I key 0 [x0, x1] ∧ True := he
  simp only [hI, hB] at he'
  obtain ⟨e0, -⟩ := he'
  show some (.int .u64 (ρ.i (v0 + 0)) : Value) = _
  rw [e0]
  rfl
def sT_kcut : Tr :=
(.call 0 [.bool] (.cons (.var 0) (.cons (.var 1) .nil)) 3
 (.br (.bvar 3)
 (.call 2 [.int .u64] (.cons (.var 0) (.cons (.var 2) .nil)) 4
  (.call 2 [.int .u64] (.cons (.var 1) (.cons (.var 2) .nil)) 5
  (.leaf (.agg [.int .u64 (.var 4), .int .u64 (.var 5)]))))
 (.call 1 [.int .u64, .int .u64] .nil 4
  (.leaf (.agg [.int .u64 (.var 4), .int .u64 (.var 5)])))))
def sP_kcut : Spec := ⟨fun k => match k with | 0 => sI_kmay | 1 => sI_kall | 2 => sI_bcut | _ => fun _ _ => 0, fun k => match k with | 0 => sB_kmay | 1 => sB_kall | 2 => sB_bcut | _ => fun _ _ => false⟩
set_option maxRecDepth 100000 in
theorem sR_kcut : funK ⟨tys_VaA, [sM_kmay 0, sM_kall 1, sM_bcut 2]⟩ 200 Try.f117 [.agg [.int .u64 (.var 0), .int .u64 (.var 1)], .one (.int .i8 (.var 2))] ⟨[], [], [some .u64, some .u64, some .i8]⟩ = sT_kcut := by kernel_rfl
set_option maxRecDepth 100000 in
set_option maxHeartbeats 8000000 in
theorem sX_kcut (a : Kn) (ha : Kn.ok a) (l : Int) (hl : inK .i8 l = true) : (∀ w, Calls Try.prog 117 #[.agg #[.int .u64 a.v, .int .u64 a.m], .int .i8 l] w fun e w' => e = .returned (.agg #[.int .u64 (kcut a l).v, .int .u64 (kcut a l).m]) ∧ Ext w w') ∧ valIn (.agg #[.int .u64 (kcut a l).v, .int .u64 (kcut a l).m]) = true := by
  refine fun_calls (cx := ⟨tys_VaA, [sM_kmay 0, sM_kall 1, sM_bcut 2]⟩) (sp := sP_kcut) (t := sT_kcut) (by kernel_rfl) tysok_VaA (List.forall_mem_cons.2 ⟨sK_kmay rfl rfl, List.forall_mem_cons.2 ⟨sK_kall rfl rfl, List.forall_mem_cons.2 ⟨sK_bcut rfl rfl, fun _ h => (by cases h)⟩⟩⟩) (keys_of (by kernel_rfl)) Try.func117 ⟨fun n => ([a.v, a.m, l] : List Int).getD n 0, fun n => ([false, false, false] : List Bool).getD n false⟩ sR_kcut (by kernel_rfl) ?_ rfl (by intro p hp; cases hp) ?_ ?_
  · intro n k hk
    have hlt : n < 3 := by
      rcases Nat.lt_or_ge n 3 with h | h
      · exact h
      · rw [List.getElem?_eq_none h] at hk; cases hk
    rcases (show n = 0 ∨ n = 1 ∨ n = 2 by omega) with rfl | rfl | rfl
    · cases hk; exact ha.1
    · cases hk; exact ha.2
    · cases hk; exact hl
  · intro ρ hag
    have g0 : ρ.i 0 = a.v := (hag 0 (by decide)).1.symm
    have g1 : ρ.i 1 = a.m := (hag 1 (by decide)).1.symm
    have g2 : ρ.i 2 = l := (hag 2 (by decide)).1.symm
    show some ([.agg #[.int .u64 (ρ.i 0), .int .u64 (ρ.i 1)], .int .i8 (ρ.i 2)] : List Value) = _
    rw [g0, g1, g2]
  · intro ρ hag
    have g0 : ρ.i 0 = a.v := (hag 0 (by decide)).1.symm
    have g1 : ρ.i 1 = a.m := (hag 1 (by decide)).1.symm
    have g2 : ρ.i 2 = l := (hag 2 (by decide)).1.symm
    simp only [sT_kcut, Tr.asks, eqs, E.I, E.B, E.L, V.den, C.den, denL, den0, den0L, Option.map_some, Nat.add_zero, Nat.reduceAdd, and_true, Kn.eta, Sc.eta_r, Sc.eta_k, Sc.eta_2, g0, g1, g2]
    simp only [sP_kcut, b01, Kn.eta, Pi.eta, Pu.eta, Rg.eta, Sc.eta, Sc.eta_r, Sc.eta_k, Sc.eta_2, sI_kmay, sB_kmay, sI_kall, sB_kall, sI_bcut, sB_bcut]
    intro e3
    (try simp only [e3, Kn.eta, Pi.eta, Pu.eta, Rg.eta, Sc.eta, Sc.eta_r, Sc.eta_k, Sc.eta_2])
    (try clear e3)
    refine ⟨fun c0 => ?_, fun c0 => ?_⟩
    · skip
      intro e4
      (try simp only [e4, Kn.eta, Pi.eta, Pu.eta, Rg.eta, Sc.eta, Sc.eta_r, Sc.eta_k, Sc.eta_2])
      (try clear e4)
      intro e5
      (try simp only [e5, Kn.eta, Pi.eta, Pu.eta, Rg.eta, Sc.eta, Sc.eta_r, Sc.eta_k, Sc.eta_2])
      (try clear e5)
      all_goals
        refine congrArg some ?_
        (unfold kcut; simp_all)
    · skip
      rintro ⟨e4, e5⟩
      (try simp only [e4, e5, Kn.eta, Pi.eta, Pu.eta, Rg.eta, Sc.eta, Sc.eta_r, Sc.eta_k, Sc.eta_2])
      (try clear e4 e5)
      all_goals
        refine congrArg some ?_
        (unfold kcut; simp_all)
def sM_kcut (key : Nat) : Sm := ⟨117, key, [(true, [.int .u64, .int .u64]), (false, [.int .i8])], [(true, [.int .u64, .int .u64])], false⟩
def sI_kcut : Nat → List Int → Int
  | 0, [x0, x1, x2] => (fun (a : Kn) (l : Int) => (kcut a l).v) ⟨x0, x1⟩ x2
  | 1, [x0, x1, x2] => (fun (a : Kn) (l : Int) => (kcut a l).m) ⟨x0, x1⟩ x2
  | _, _ => 0
def sB_kcut : Nat → List Int → Bool
  | _, _ => false
theorem sK_kcut {sp : Spec} {key : Nat} (hI : sp.I key = sI_kcut) (hB : sp.B key = sB_kcut) : SmOk Try.prog sp (sM_kcut key) := by
  refine SmOk.of (.inl ⟨run_enter Try.func117 (by kernel_rfl) (by kernel_rfl), fun xs vals h => ?_⟩) (.inr (.inl ⟨_, rfl⟩))
  obtain ⟨_, _, _, p1, h1, rfl⟩ := shA h
  obtain ⟨_, _, _, d1_0, p1_0, rfl⟩ := cksC p1
  obtain ⟨x0, rfl, rfl, gx0⟩ := ckI d1_0
  obtain ⟨_, _, _, d1_1, p1_1, rfl⟩ := cksC p1_0
  obtain ⟨x1, rfl, rfl, gx1⟩ := ckI d1_1
  obtain ⟨rfl, rfl⟩ := cksN p1_1
  obtain ⟨_, _, _, d2, h2, rfl⟩ := shO h1
  obtain ⟨x2, rfl, rfl, gx2⟩ := ckI d2
  obtain ⟨rfl, rfl⟩ := shN h2
  refine ⟨_, sX_kcut ⟨x0, x1⟩ ⟨gx0, gx1⟩ x2 gx2, fun ρ v0 he => ?_⟩
  have he' : ρ.i (v0 + 0) = sp.I key 0 [x0, x1, x2] ∧ ρ.i (v0 + 1) = sp.I key 1 [x0, x1, x2] ∧ True := he
  simp only [hI, hB] at he'
  obtain ⟨e0, e1, -⟩ := he'
  show some (.agg #[.int .u64 (ρ.i (v0 + 0)), .int .u64 (ρ.i (v0 + 1))] : Value) = _
  rw [e0, e1]
  rfl
def sT_vmay : Tr :=
(.call 0 [.bool] (.cons (.var 0) (.cons (.var 1) (.cons (.var 2) (.cons (.var 3) .nil)))) 6
 (.br (.bvar 6)
 (.call 1 [.bool] (.cons (.var 4) (.cons (.var 5) .nil)) 7
  (.leaf (.one (.bool (.bvar 7)))))
 (.leaf (.one (.bool (.tt false))))))
def sP_vmay : Spec := ⟨fun k => match k with | 0 => sI_may | 1 => sI_kmay | _ => fun _ _ => 0, fun k => match k with | 0 => sB_may | 1 => sB_kmay | _ => fun _ _ => false⟩
set_option maxRecDepth 100000 in
theorem sR_vmay : funK ⟨tys_VaA, [sM_may 0, sM_kmay 1]⟩ 200 Try.f48 [.agg [.int .u64 (.var 0), .int .u64 (.var 1), .int .i64 (.var 2), .int .i64 (.var 3), .int .u64 (.var 4), .int .u64 (.var 5)]] ⟨[], [], [some .u64, some .u64, some .i64, some .i64, some .u64, some .u64]⟩ = sT_vmay := by kernel_rfl
set_option maxRecDepth 100000 in
set_option maxHeartbeats 8000000 in
theorem sX_vmay (a : Sc) (ha : Sc.ok a) : (∀ w, Calls Try.prog 48 #[.agg #[.int .u64 a.ul, .int .u64 a.uh, .int .i64 a.sl, .int .i64 a.sh, .int .u64 a.v, .int .u64 a.m]] w fun e w' => e = .returned (.bool (vmay a)) ∧ Ext w w') ∧ valIn (.bool (vmay a)) = true := by
  refine fun_calls (cx := ⟨tys_VaA, [sM_may 0, sM_kmay 1]⟩) (sp := sP_vmay) (t := sT_vmay) (by kernel_rfl) tysok_VaA (List.forall_mem_cons.2 ⟨sK_may rfl rfl, List.forall_mem_cons.2 ⟨sK_kmay rfl rfl, fun _ h => (by cases h)⟩⟩) (keys_of (by kernel_rfl)) Try.func48 ⟨fun n => ([a.ul, a.uh, a.sl, a.sh, a.v, a.m] : List Int).getD n 0, fun n => ([false, false, false, false, false, false] : List Bool).getD n false⟩ sR_vmay (by kernel_rfl) ?_ rfl (by intro p hp; cases hp) ?_ ?_
  · intro n k hk
    have hlt : n < 6 := by
      rcases Nat.lt_or_ge n 6 with h | h
      · exact h
      · rw [List.getElem?_eq_none h] at hk; cases hk
    rcases (show n = 0 ∨ n = 1 ∨ n = 2 ∨ n = 3 ∨ n = 4 ∨ n = 5 by omega) with rfl | rfl | rfl | rfl | rfl | rfl
    · cases hk; exact ha.1
    · cases hk; exact ha.2.1
    · cases hk; exact ha.2.2.1
    · cases hk; exact ha.2.2.2.1
    · cases hk; exact ha.2.2.2.2.1
    · cases hk; exact ha.2.2.2.2.2
  · intro ρ hag
    have g0 : ρ.i 0 = a.ul := (hag 0 (by decide)).1.symm
    have g1 : ρ.i 1 = a.uh := (hag 1 (by decide)).1.symm
    have g2 : ρ.i 2 = a.sl := (hag 2 (by decide)).1.symm
    have g3 : ρ.i 3 = a.sh := (hag 3 (by decide)).1.symm
    have g4 : ρ.i 4 = a.v := (hag 4 (by decide)).1.symm
    have g5 : ρ.i 5 = a.m := (hag 5 (by decide)).1.symm
    show some ([.agg #[.int .u64 (ρ.i 0), .int .u64 (ρ.i 1), .int .i64 (ρ.i 2), .int .i64 (ρ.i 3), .int .u64 (ρ.i 4), .int .u64 (ρ.i 5)]] : List Value) = _
    rw [g0, g1, g2, g3, g4, g5]
  · intro ρ hag
    have g0 : ρ.i 0 = a.ul := (hag 0 (by decide)).1.symm
    have g1 : ρ.i 1 = a.uh := (hag 1 (by decide)).1.symm
    have g2 : ρ.i 2 = a.sl := (hag 2 (by decide)).1.symm
    have g3 : ρ.i 3 = a.sh := (hag 3 (by decide)).1.symm
    have g4 : ρ.i 4 = a.v := (hag 4 (by decide)).1.symm
    have g5 : ρ.i 5 = a.m := (hag 5 (by decide)).1.symm
    simp only [sT_vmay, Tr.asks, eqs, E.I, E.B, E.L, V.den, C.den, denL, den0, den0L, Option.map_some, Nat.add_zero, Nat.reduceAdd, and_true, Sc.eta, Sc.eta_r, Sc.eta_k, Sc.eta_2, g0, g1, g2, g3, g4, g5]
    simp only [sP_vmay, b01, Kn.eta, Pi.eta, Pu.eta, Rg.eta, Sc.eta, Sc.eta_r, Sc.eta_k, Sc.eta_2, sI_may, sB_may, sI_kmay, sB_kmay]
    intro e6
    (try simp only [e6, Kn.eta, Pi.eta, Pu.eta, Rg.eta, Sc.eta, Sc.eta_r, Sc.eta_k, Sc.eta_2])
    (try clear e6)
    refine ⟨fun c0 => ?_, fun c0 => ?_⟩
    · skip
      intro e7
      (try simp only [e7, Kn.eta, Pi.eta, Pu.eta, Rg.eta, Sc.eta, Sc.eta_r, Sc.eta_k, Sc.eta_2])
      (try clear e7)
      all_goals
        refine congrArg some ?_
        (unfold vmay; simp_all)
    · skip
      all_goals
        refine congrArg some ?_
        (unfold vmay; simp_all)
def sM_vmay (key : Nat) : Sm := ⟨48, key, [(true, [.int .u64, .int .u64, .int .i64, .int .i64, .int .u64, .int .u64])], [(false, [.bool])], false⟩
def sI_vmay : Nat → List Int → Int
  | _, _ => 0
def sB_vmay : Nat → List Int → Bool
  | 0, [x0, x1, x2, x3, x4, x5] => (fun (a : Sc) => vmay a) ⟨x0, x1, x2, x3, x4, x5⟩
  | _, _ => false
theorem sK_vmay {sp : Spec} {key : Nat} (hI : sp.I key = sI_vmay) (hB : sp.B key = sB_vmay) : SmOk Try.prog sp (sM_vmay key) := by
  refine SmOk.of (.inl ⟨run_enter Try.func48 (by kernel_rfl) (by kernel_rfl), fun xs vals h => ?_⟩) (.inr (.inr ⟨_, rfl⟩))
  obtain ⟨_, _, _, p1, h1, rfl⟩ := shA h
  obtain ⟨_, _, _, d1_0, p1_0, rfl⟩ := cksC p1
  obtain ⟨x0, rfl, rfl, gx0⟩ := ckI d1_0
  obtain ⟨_, _, _, d1_1, p1_1, rfl⟩ := cksC p1_0
  obtain ⟨x1, rfl, rfl, gx1⟩ := ckI d1_1
  obtain ⟨_, _, _, d1_2, p1_2, rfl⟩ := cksC p1_1
  obtain ⟨x2, rfl, rfl, gx2⟩ := ckI d1_2
  obtain ⟨_, _, _, d1_3, p1_3, rfl⟩ := cksC p1_2
  obtain ⟨x3, rfl, rfl, gx3⟩ := ckI d1_3
  obtain ⟨_, _, _, d1_4, p1_4, rfl⟩ := cksC p1_3
  obtain ⟨x4, rfl, rfl, gx4⟩ := ckI d1_4
  obtain ⟨_, _, _, d1_5, p1_5, rfl⟩ := cksC p1_4
  obtain ⟨x5, rfl, rfl, gx5⟩ := ckI d1_5
  obtain ⟨rfl, rfl⟩ := cksN p1_5
  obtain ⟨rfl, rfl⟩ := shN h1
  refine ⟨_, sX_vmay ⟨x0, x1, x2, x3, x4, x5⟩ ⟨gx0, gx1, gx2, gx3, gx4, gx5⟩, fun ρ v0 he => ?_⟩
  have he' : ρ.b (v0 + 0) = sp.B key 0 [x0, x1, x2, x3, x4, x5] ∧ True := he
  simp only [hI, hB] at he'
  obtain ⟨e0, -⟩ := he'
  show some (.bool (ρ.b (v0 + 0)) : Value) = _
  rw [e0]
  rfl
def sT_vall : Tr :=
(.call 0 [.int .u64, .int .u64, .int .i64, .int .i64] .nil 0
 (.call 1 [.int .u64, .int .u64] .nil 4
 (.leaf (.agg [.int .u64 (.var 0), .int .u64 (.var 1), .int .i64 (.var 2), .int .i64 (.var 3), .int .u64 (.var 4), .int .u64 (.var 5)]))))
def sP_vall : Spec := ⟨fun k => match k with | 0 => sI_all | 1 => sI_kall | _ => fun _ _ => 0, fun k => match k with | 0 => sB_all | 1 => sB_kall | _ => fun _ _ => false⟩
set_option maxRecDepth 100000 in
theorem sR_vall : funK ⟨tys_VaA, [sM_all 0, sM_kall 1]⟩ 200 Try.f41 [] ⟨[], [], []⟩ = sT_vall := by kernel_rfl
set_option maxRecDepth 100000 in
set_option maxHeartbeats 8000000 in
theorem sX_vall  : (∀ w, Calls Try.prog 41 #[] w fun e w' => e = .returned (.agg #[.int .u64 vall.ul, .int .u64 vall.uh, .int .i64 vall.sl, .int .i64 vall.sh, .int .u64 vall.v, .int .u64 vall.m]) ∧ Ext w w') ∧ valIn (.agg #[.int .u64 vall.ul, .int .u64 vall.uh, .int .i64 vall.sl, .int .i64 vall.sh, .int .u64 vall.v, .int .u64 vall.m]) = true := by
  refine fun_calls (cx := ⟨tys_VaA, [sM_all 0, sM_kall 1]⟩) (sp := sP_vall) (t := sT_vall) (by kernel_rfl) tysok_VaA (List.forall_mem_cons.2 ⟨sK_all rfl rfl, List.forall_mem_cons.2 ⟨sK_kall rfl rfl, fun _ h => (by cases h)⟩⟩) (keys_of (by kernel_rfl)) Try.func41 ⟨fun n => ([] : List Int).getD n 0, fun n => ([] : List Bool).getD n false⟩ sR_vall (by kernel_rfl) ?_ rfl (by intro p hp; cases hp) ?_ ?_
  · intro n k hk
    have hlt : n < 0 := by
      rcases Nat.lt_or_ge n 0 with h | h
      · exact h
      · rw [List.getElem?_eq_none h] at hk; cases hk
    omega
  · intro ρ hag
    show some ([] : List Value) = _
    rfl
  · intro ρ hag
    simp only [sT_vall, Tr.asks, eqs, E.I, E.B, E.L, V.den, C.den, denL, den0, den0L, Option.map_some, Nat.add_zero, Nat.reduceAdd, and_true, Sc.eta_r, Sc.eta_k, Sc.eta_2]
    simp only [sP_vall, b01, Kn.eta, Pi.eta, Pu.eta, Rg.eta, Sc.eta, Sc.eta_r, Sc.eta_k, Sc.eta_2, sI_all, sB_all, sI_kall, sB_kall]
    rintro ⟨e0, e1, e2, e3⟩
    (try simp only [e0, e1, e2, e3, Kn.eta, Pi.eta, Pu.eta, Rg.eta, Sc.eta, Sc.eta_r, Sc.eta_k, Sc.eta_2])
    (try clear e0 e1 e2 e3)
    rintro ⟨e4, e5⟩
    (try simp only [e4, e5, Kn.eta, Pi.eta, Pu.eta, Rg.eta, Sc.eta, Sc.eta_r, Sc.eta_k, Sc.eta_2])
    (try clear e4 e5)
    all_goals
      refine congrArg some ?_
      rfl
def sM_vall (key : Nat) : Sm := ⟨41, key, [], [(true, [.int .u64, .int .u64, .int .i64, .int .i64, .int .u64, .int .u64])], false⟩
def sI_vall : Nat → List Int → Int
  | 0, [] => vall.ul
  | 1, [] => vall.uh
  | 2, [] => vall.sl
  | 3, [] => vall.sh
  | 4, [] => vall.v
  | 5, [] => vall.m
  | _, _ => 0
def sB_vall : Nat → List Int → Bool
  | _, _ => false
theorem sK_vall {sp : Spec} {key : Nat} (hI : sp.I key = sI_vall) (hB : sp.B key = sB_vall) : SmOk Try.prog sp (sM_vall key) := by
  refine SmOk.of (.inl ⟨run_enter Try.func41 (by kernel_rfl) (by kernel_rfl), fun xs vals h => ?_⟩) (.inr (.inl ⟨_, rfl⟩))
  obtain ⟨rfl, rfl⟩ := shN h
  refine ⟨_, sX_vall , fun ρ v0 he => ?_⟩
  have he' : ρ.i (v0 + 0) = sp.I key 0 [] ∧ ρ.i (v0 + 1) = sp.I key 1 [] ∧ ρ.i (v0 + 2) = sp.I key 2 [] ∧ ρ.i (v0 + 3) = sp.I key 3 [] ∧ ρ.i (v0 + 4) = sp.I key 4 [] ∧ ρ.i (v0 + 5) = sp.I key 5 [] ∧ True := he
  simp only [hI, hB] at he'
  obtain ⟨e0, e1, e2, e3, e4, e5, -⟩ := he'
  show some (.agg #[.int .u64 (ρ.i (v0 + 0)), .int .u64 (ρ.i (v0 + 1)), .int .i64 (ρ.i (v0 + 2)), .int .i64 (ρ.i (v0 + 3)), .int .u64 (ρ.i (v0 + 4)), .int .u64 (ρ.i (v0 + 5))] : Value) = _
  rw [e0, e1, e2, e3, e4, e5]
  rfl
def sT_vone : Tr :=
(.call 0 [.int .u64, .int .u64, .int .i64, .int .i64] (.cons (.var 0) .nil) 1
 (.call 1 [.int .u64, .int .u64] (.cons (.var 0) .nil) 5
 (.leaf (.agg [.int .u64 (.var 1), .int .u64 (.var 2), .int .i64 (.var 3), .int .i64 (.var 4), .int .u64 (.var 5), .int .u64 (.var 6)]))))
def sP_vone : Spec := ⟨fun k => match k with | 0 => sI_one | 1 => sI_kone | _ => fun _ _ => 0, fun k => match k with | 0 => sB_one | 1 => sB_kone | _ => fun _ _ => false⟩
set_option maxRecDepth 100000 in
theorem sR_vone : funK ⟨tys_VaA, [sM_one 0, sM_kone 1]⟩ 200 Try.f40 [.one (.int .u64 (.var 0))] ⟨[], [], [some .u64]⟩ = sT_vone := by kernel_rfl
set_option maxRecDepth 100000 in
set_option maxHeartbeats 8000000 in
theorem sX_vone (v : Int) (hv : inK .u64 v = true) : (∀ w, Calls Try.prog 40 #[.int .u64 v] w fun e w' => e = .returned (.agg #[.int .u64 (vone v).ul, .int .u64 (vone v).uh, .int .i64 (vone v).sl, .int .i64 (vone v).sh, .int .u64 (vone v).v, .int .u64 (vone v).m]) ∧ Ext w w') ∧ valIn (.agg #[.int .u64 (vone v).ul, .int .u64 (vone v).uh, .int .i64 (vone v).sl, .int .i64 (vone v).sh, .int .u64 (vone v).v, .int .u64 (vone v).m]) = true := by
  refine fun_calls (cx := ⟨tys_VaA, [sM_one 0, sM_kone 1]⟩) (sp := sP_vone) (t := sT_vone) (by kernel_rfl) tysok_VaA (List.forall_mem_cons.2 ⟨sK_one rfl rfl, List.forall_mem_cons.2 ⟨sK_kone rfl rfl, fun _ h => (by cases h)⟩⟩) (keys_of (by kernel_rfl)) Try.func40 ⟨fun n => ([v] : List Int).getD n 0, fun n => ([false] : List Bool).getD n false⟩ sR_vone (by kernel_rfl) ?_ rfl (by intro p hp; cases hp) ?_ ?_
  · intro n k hk
    have hlt : n < 1 := by
      rcases Nat.lt_or_ge n 1 with h | h
      · exact h
      · rw [List.getElem?_eq_none h] at hk; cases hk
    rcases (show n = 0 by omega) with rfl
    · cases hk; exact hv
  · intro ρ hag
    have g0 : ρ.i 0 = v := (hag 0 (by decide)).1.symm
    show some ([.int .u64 (ρ.i 0)] : List Value) = _
    rw [g0]
  · intro ρ hag
    have g0 : ρ.i 0 = v := (hag 0 (by decide)).1.symm
    simp only [sT_vone, Tr.asks, eqs, E.I, E.B, E.L, V.den, C.den, denL, den0, den0L, Option.map_some, Nat.add_zero, Nat.reduceAdd, and_true, Sc.eta_r, Sc.eta_k, Sc.eta_2, g0]
    simp only [sP_vone, b01, Kn.eta, Pi.eta, Pu.eta, Rg.eta, Sc.eta, Sc.eta_r, Sc.eta_k, Sc.eta_2, sI_one, sB_one, sI_kone, sB_kone]
    rintro ⟨e1, e2, e3, e4⟩
    (try simp only [e1, e2, e3, e4, Kn.eta, Pi.eta, Pu.eta, Rg.eta, Sc.eta, Sc.eta_r, Sc.eta_k, Sc.eta_2])
    (try clear e1 e2 e3 e4)
    rintro ⟨e5, e6⟩
    (try simp only [e5, e6, Kn.eta, Pi.eta, Pu.eta, Rg.eta, Sc.eta, Sc.eta_r, Sc.eta_k, Sc.eta_2])
    (try clear e5 e6)
    all_goals
      refine congrArg some ?_
      rfl
def sM_vone (key : Nat) : Sm := ⟨40, key, [(false, [.int .u64])], [(true, [.int .u64, .int .u64, .int .i64, .int .i64, .int .u64, .int .u64])], false⟩
def sI_vone : Nat → List Int → Int
  | 0, [x0] => (fun (v : Int) => (vone v).ul) x0
  | 1, [x0] => (fun (v : Int) => (vone v).uh) x0
  | 2, [x0] => (fun (v : Int) => (vone v).sl) x0
  | 3, [x0] => (fun (v : Int) => (vone v).sh) x0
  | 4, [x0] => (fun (v : Int) => (vone v).v) x0
  | 5, [x0] => (fun (v : Int) => (vone v).m) x0
  | _, _ => 0
def sB_vone : Nat → List Int → Bool
  | _, _ => false
theorem sK_vone {sp : Spec} {key : Nat} (hI : sp.I key = sI_vone) (hB : sp.B key = sB_vone) : SmOk Try.prog sp (sM_vone key) := by
  refine SmOk.of (.inl ⟨run_enter Try.func40 (by kernel_rfl) (by kernel_rfl), fun xs vals h => ?_⟩) (.inr (.inl ⟨_, rfl⟩))
  obtain ⟨_, _, _, d1, h1, rfl⟩ := shO h
  obtain ⟨x0, rfl, rfl, gx0⟩ := ckI d1
  obtain ⟨rfl, rfl⟩ := shN h1
  refine ⟨_, sX_vone x0 gx0, fun ρ v0 he => ?_⟩
  have he' : ρ.i (v0 + 0) = sp.I key 0 [x0] ∧ ρ.i (v0 + 1) = sp.I key 1 [x0] ∧ ρ.i (v0 + 2) = sp.I key 2 [x0] ∧ ρ.i (v0 + 3) = sp.I key 3 [x0] ∧ ρ.i (v0 + 4) = sp.I key 4 [x0] ∧ ρ.i (v0 + 5) = sp.I key 5 [x0] ∧ True := he
  simp only [hI, hB] at he'
  obtain ⟨e0, e1, e2, e3, e4, e5, -⟩ := he'
  show some (.agg #[.int .u64 (ρ.i (v0 + 0)), .int .u64 (ρ.i (v0 + 1)), .int .i64 (ρ.i (v0 + 2)), .int .i64 (ρ.i (v0 + 3)), .int .u64 (ρ.i (v0 + 4)), .int .u64 (ρ.i (v0 + 5))] : Value) = _
  rw [e0, e1, e2, e3, e4, e5]
  rfl
def sT_vhas : Tr :=
(.call 0 [.bool] (.cons (.var 0) (.cons (.var 1) (.cons (.var 2) (.cons (.var 3) (.cons (.var 4) (.cons (.var 5) .nil)))))) 7
 (.br (.bvar 7)
 (.call 1 [.bool] (.cons (.var 0) (.cons (.var 1) (.cons (.var 2) (.cons (.var 3) (.cons (.var 6) .nil))))) 8
  (.br (.bvar 8)
  (.call 2 [.bool] (.cons (.var 4) (.cons (.var 5) (.cons (.var 6) .nil))) 9
   (.leaf (.one (.bool (.bvar 9)))))
  (.leaf (.one (.bool (.tt false))))))
 (.leaf (.one (.bool (.tt false))))))
def sP_vhas : Spec := ⟨fun k => match k with | 0 => sI_vmay | 1 => sI_has | 2 => sI_khas | _ => fun _ _ => 0, fun k => match k with | 0 => sB_vmay | 1 => sB_has | 2 => sB_khas | _ => fun _ _ => false⟩
set_option maxRecDepth 100000 in
theorem sR_vhas : funK ⟨tys_VaA, [sM_vmay 0, sM_has 1, sM_khas 2]⟩ 200 Try.f44 [.agg [.int .u64 (.var 0), .int .u64 (.var 1), .int .i64 (.var 2), .int .i64 (.var 3), .int .u64 (.var 4), .int .u64 (.var 5)], .one (.int .u64 (.var 6))] ⟨[], [], [some .u64, some .u64, some .i64, some .i64, some .u64, some .u64, some .u64]⟩ = sT_vhas := by kernel_rfl
set_option maxRecDepth 100000 in
set_option maxHeartbeats 8000000 in
theorem sX_vhas (a : Sc) (ha : Sc.ok a) (v : Int) (hv : inK .u64 v = true) : (∀ w, Calls Try.prog 44 #[.agg #[.int .u64 a.ul, .int .u64 a.uh, .int .i64 a.sl, .int .i64 a.sh, .int .u64 a.v, .int .u64 a.m], .int .u64 v] w fun e w' => e = .returned (.bool (vhas a v)) ∧ Ext w w') ∧ valIn (.bool (vhas a v)) = true := by
  refine fun_calls (cx := ⟨tys_VaA, [sM_vmay 0, sM_has 1, sM_khas 2]⟩) (sp := sP_vhas) (t := sT_vhas) (by kernel_rfl) tysok_VaA (List.forall_mem_cons.2 ⟨sK_vmay rfl rfl, List.forall_mem_cons.2 ⟨sK_has rfl rfl, List.forall_mem_cons.2 ⟨sK_khas rfl rfl, fun _ h => (by cases h)⟩⟩⟩) (keys_of (by kernel_rfl)) Try.func44 ⟨fun n => ([a.ul, a.uh, a.sl, a.sh, a.v, a.m, v] : List Int).getD n 0, fun n => ([false, false, false, false, false, false, false] : List Bool).getD n false⟩ sR_vhas (by kernel_rfl) ?_ rfl (by intro p hp; cases hp) ?_ ?_
  · intro n k hk
    have hlt : n < 7 := by
      rcases Nat.lt_or_ge n 7 with h | h
      · exact h
      · rw [List.getElem?_eq_none h] at hk; cases hk
    rcases (show n = 0 ∨ n = 1 ∨ n = 2 ∨ n = 3 ∨ n = 4 ∨ n = 5 ∨ n = 6 by omega) with rfl | rfl | rfl | rfl | rfl | rfl | rfl
    · cases hk; exact ha.1
    · cases hk; exact ha.2.1
    · cases hk; exact ha.2.2.1
    · cases hk; exact ha.2.2.2.1
    · cases hk; exact ha.2.2.2.2.1
    · cases hk; exact ha.2.2.2.2.2
    · cases hk; exact hv
  · intro ρ hag
    have g0 : ρ.i 0 = a.ul := (hag 0 (by decide)).1.symm
    have g1 : ρ.i 1 = a.uh := (hag 1 (by decide)).1.symm
    have g2 : ρ.i 2 = a.sl := (hag 2 (by decide)).1.symm
    have g3 : ρ.i 3 = a.sh := (hag 3 (by decide)).1.symm
    have g4 : ρ.i 4 = a.v := (hag 4 (by decide)).1.symm
    have g5 : ρ.i 5 = a.m := (hag 5 (by decide)).1.symm
    have g6 : ρ.i 6 = v := (hag 6 (by decide)).1.symm
    show some ([.agg #[.int .u64 (ρ.i 0), .int .u64 (ρ.i 1), .int .i64 (ρ.i 2), .int .i64 (ρ.i 3), .int .u64 (ρ.i 4), .int .u64 (ρ.i 5)], .int .u64 (ρ.i 6)] : List Value) = _
    rw [g0, g1, g2, g3, g4, g5, g6]
  · intro ρ hag
    have g0 : ρ.i 0 = a.ul := (hag 0 (by decide)).1.symm
    have g1 : ρ.i 1 = a.uh := (hag 1 (by decide)).1.symm
    have g2 : ρ.i 2 = a.sl := (hag 2 (by decide)).1.symm
    have g3 : ρ.i 3 = a.sh := (hag 3 (by decide)).1.symm
    have g4 : ρ.i 4 = a.v := (hag 4 (by decide)).1.symm
    have g5 : ρ.i 5 = a.m := (hag 5 (by decide)).1.symm
    have g6 : ρ.i 6 = v := (hag 6 (by decide)).1.symm
    simp only [sT_vhas, Tr.asks, eqs, E.I, E.B, E.L, V.den, C.den, denL, den0, den0L, Option.map_some, Nat.add_zero, Nat.reduceAdd, and_true, Sc.eta, Sc.eta_r, Sc.eta_k, Sc.eta_2, g0, g1, g2, g3, g4, g5, g6]
    simp only [sP_vhas, b01, Kn.eta, Pi.eta, Pu.eta, Rg.eta, Sc.eta, Sc.eta_r, Sc.eta_k, Sc.eta_2, sI_vmay, sB_vmay, sI_has, sB_has, sI_khas, sB_khas]
    intro e7
    (try simp only [e7, Kn.eta, Pi.eta, Pu.eta, Rg.eta, Sc.eta, Sc.eta_r, Sc.eta_k, Sc.eta_2])
    (try clear e7)
    refine ⟨fun c0 => ?_, fun c0 => ?_⟩
    · skip
      intro e8
      (try simp only [e8, Kn.eta, Pi.eta, Pu.eta, Rg.eta, Sc.eta, Sc.eta_r, Sc.eta_k, Sc.eta_2])
      (try clear e8)
      refine ⟨fun c1 => ?_, fun c1 => ?_⟩
      · skip
        intro e9
        (try simp only [e9, Kn.eta, Pi.eta, Pu.eta, Rg.eta, Sc.eta, Sc.eta_r, Sc.eta_k, Sc.eta_2])
        (try clear e9)
        all_goals
          refine congrArg some ?_
          (unfold vhas; simp_all)
      · skip
        all_goals
          refine congrArg some ?_
          (unfold vhas; simp_all)
    · skip
      all_goals
        refine congrArg some ?_
        (unfold vhas; simp_all)
def sM_vhas (key : Nat) : Sm := ⟨44, key, [(true, [.int .u64, .int .u64, .int .i64, .int .i64, .int .u64, .int .u64]), (false, [.int .u64])], [(false, [.bool])], false⟩
def sI_vhas : Nat → List Int → Int
  | _, _ => 0
def sB_vhas : Nat → List Int → Bool
  | 0, [x0, x1, x2, x3, x4, x5, x6] => (fun (a : Sc) (v : Int) => vhas a v) ⟨x0, x1, x2, x3, x4, x5⟩ x6
  | _, _ => false
theorem sK_vhas {sp : Spec} {key : Nat} (hI : sp.I key = sI_vhas) (hB : sp.B key = sB_vhas) : SmOk Try.prog sp (sM_vhas key) := by
  refine SmOk.of (.inl ⟨run_enter Try.func44 (by kernel_rfl) (by kernel_rfl), fun xs vals h => ?_⟩) (.inr (.inr ⟨_, rfl⟩))
  obtain ⟨_, _, _, p1, h1, rfl⟩ := shA h
  obtain ⟨_, _, _, d1_0, p1_0, rfl⟩ := cksC p1
  obtain ⟨x0, rfl, rfl, gx0⟩ := ckI d1_0
  obtain ⟨_, _, _, d1_1, p1_1, rfl⟩ := cksC p1_0
  obtain ⟨x1, rfl, rfl, gx1⟩ := ckI d1_1
  obtain ⟨_, _, _, d1_2, p1_2, rfl⟩ := cksC p1_1
  obtain ⟨x2, rfl, rfl, gx2⟩ := ckI d1_2
  obtain ⟨_, _, _, d1_3, p1_3, rfl⟩ := cksC p1_2
  obtain ⟨x3, rfl, rfl, gx3⟩ := ckI d1_3
  obtain ⟨_, _, _, d1_4, p1_4, rfl⟩ := cksC p1_3
  obtain ⟨x4, rfl, rfl, gx4⟩ := ckI d1_4
  obtain ⟨_, _, _, d1_5, p1_5, rfl⟩ := cksC p1_4
  obtain ⟨x5, rfl, rfl, gx5⟩ := ckI d1_5
  obtain ⟨rfl, rfl⟩ := cksN p1_5
  obtain ⟨_, _, _, d2, h2, rfl⟩ := shO h1
  obtain ⟨x6, rfl, rfl, gx6⟩ := ckI d2
  obtain ⟨rfl, rfl⟩ := shN h2
  refine ⟨_, sX_vhas ⟨x0, x1, x2, x3, x4, x5⟩ ⟨gx0, gx1, gx2, gx3, gx4, gx5⟩ x6 gx6, fun ρ v0 he => ?_⟩
  have he' : ρ.b (v0 + 0) = sp.B key 0 [x0, x1, x2, x3, x4, x5, x6] ∧ True := he
  simp only [hI, hB] at he'
  obtain ⟨e0, -⟩ := he'
  show some (.bool (ρ.b (v0 + 0)) : Value) = _
  rw [e0]
  rfl
def sT_vsingle : Tr :=
(.call 0 [.bool] (.cons (.var 0) (.cons (.var 1) (.cons (.var 2) (.cons (.var 3) (.cons (.var 4) (.cons (.var 5) .nil)))))) 6
 (.br (.bvar 6)
 (.call 1 [.int .u64, .bool] (.cons (.var 0) (.cons (.var 1) (.cons (.var 2) (.cons (.var 3) .nil)))) 7
  (.leaf (.tup [(false, [.int .u64 (.var 7)]), (false, [.bool (.bvar 8)])])))
 (.leaf (.tup [(false, [.int .u64 (.lit 0)]), (false, [.bool (.tt false)])]))))
def sP_vsingle : Spec := ⟨fun k => match k with | 0 => sI_vmay | 1 => sI_single | _ => fun _ _ => 0, fun k => match k with | 0 => sB_vmay | 1 => sB_single | _ => fun _ _ => false⟩
set_option maxRecDepth 100000 in
theorem sR_vsingle : funK ⟨tys_VaA, [sM_vmay 0, sM_single 1]⟩ 200 Try.f43 [.agg [.int .u64 (.var 0), .int .u64 (.var 1), .int .i64 (.var 2), .int .i64 (.var 3), .int .u64 (.var 4), .int .u64 (.var 5)]] ⟨[], [], [some .u64, some .u64, some .i64, some .i64, some .u64, some .u64]⟩ = sT_vsingle := by kernel_rfl
set_option maxRecDepth 100000 in
set_option maxHeartbeats 8000000 in
theorem sX_vsingle (a : Sc) (ha : Sc.ok a) : (∀ w, Calls Try.prog 43 #[.agg #[.int .u64 a.ul, .int .u64 a.uh, .int .i64 a.sl, .int .i64 a.sh, .int .u64 a.v, .int .u64 a.m]] w fun e w' => e = .returned (.tuple #[.int .u64 (vsingle a), .bool (vones a)]) ∧ Ext w w') ∧ valIn (.tuple #[.int .u64 (vsingle a), .bool (vones a)]) = true := by
  refine fun_calls (cx := ⟨tys_VaA, [sM_vmay 0, sM_single 1]⟩) (sp := sP_vsingle) (t := sT_vsingle) (by kernel_rfl) tysok_VaA (List.forall_mem_cons.2 ⟨sK_vmay rfl rfl, List.forall_mem_cons.2 ⟨sK_single rfl rfl, fun _ h => (by cases h)⟩⟩) (keys_of (by kernel_rfl)) Try.func43 ⟨fun n => ([a.ul, a.uh, a.sl, a.sh, a.v, a.m] : List Int).getD n 0, fun n => ([false, false, false, false, false, false] : List Bool).getD n false⟩ sR_vsingle (by kernel_rfl) ?_ rfl (by intro p hp; cases hp) ?_ ?_
  · intro n k hk
    have hlt : n < 6 := by
      rcases Nat.lt_or_ge n 6 with h | h
      · exact h
      · rw [List.getElem?_eq_none h] at hk; cases hk
    rcases (show n = 0 ∨ n = 1 ∨ n = 2 ∨ n = 3 ∨ n = 4 ∨ n = 5 by omega) with rfl | rfl | rfl | rfl | rfl | rfl
    · cases hk; exact ha.1
    · cases hk; exact ha.2.1
    · cases hk; exact ha.2.2.1
    · cases hk; exact ha.2.2.2.1
    · cases hk; exact ha.2.2.2.2.1
    · cases hk; exact ha.2.2.2.2.2
  · intro ρ hag
    have g0 : ρ.i 0 = a.ul := (hag 0 (by decide)).1.symm
    have g1 : ρ.i 1 = a.uh := (hag 1 (by decide)).1.symm
    have g2 : ρ.i 2 = a.sl := (hag 2 (by decide)).1.symm
    have g3 : ρ.i 3 = a.sh := (hag 3 (by decide)).1.symm
    have g4 : ρ.i 4 = a.v := (hag 4 (by decide)).1.symm
    have g5 : ρ.i 5 = a.m := (hag 5 (by decide)).1.symm
    show some ([.agg #[.int .u64 (ρ.i 0), .int .u64 (ρ.i 1), .int .i64 (ρ.i 2), .int .i64 (ρ.i 3), .int .u64 (ρ.i 4), .int .u64 (ρ.i 5)]] : List Value) = _
    rw [g0, g1, g2, g3, g4, g5]
  · intro ρ hag
    have g0 : ρ.i 0 = a.ul := (hag 0 (by decide)).1.symm
    have g1 : ρ.i 1 = a.uh := (hag 1 (by decide)).1.symm
    have g2 : ρ.i 2 = a.sl := (hag 2 (by decide)).1.symm
    have g3 : ρ.i 3 = a.sh := (hag 3 (by decide)).1.symm
    have g4 : ρ.i 4 = a.v := (hag 4 (by decide)).1.symm
    have g5 : ρ.i 5 = a.m := (hag 5 (by decide)).1.symm
    simp only [sT_vsingle, Tr.asks, eqs, E.I, E.B, E.L, V.den, C.den, denL, den0, den0L, Option.map_some, Nat.add_zero, Nat.reduceAdd, and_true, Sc.eta, Sc.eta_r, Sc.eta_k, Sc.eta_2, g0, g1, g2, g3, g4, g5]
    simp only [sP_vsingle, b01, Kn.eta, Pi.eta, Pu.eta, Rg.eta, Sc.eta, Sc.eta_r, Sc.eta_k, Sc.eta_2, sI_vmay, sB_vmay, sI_single, sB_single]
    intro e6
    (try simp only [e6, Kn.eta, Pi.eta, Pu.eta, Rg.eta, Sc.eta, Sc.eta_r, Sc.eta_k, Sc.eta_2])
    (try clear e6)
    refine ⟨fun c0 => ?_, fun c0 => ?_⟩
    · skip
      rintro ⟨e7, e8⟩
      (try simp only [e7, e8, Kn.eta, Pi.eta, Pu.eta, Rg.eta, Sc.eta, Sc.eta_r, Sc.eta_k, Sc.eta_2])
      (try clear e7 e8)
      all_goals
        refine congrArg some ?_
        (unfold vsingle vones; simp_all)
    · skip
      all_goals
        refine congrArg some ?_
        (unfold vsingle vones; simp_all)
def sM_vsingle (key : Nat) : Sm := ⟨43, key, [(true, [.int .u64, .int .u64, .int .i64, .int .i64, .int .u64, .int .u64])], [(false, [.int .u64]), (false, [.bool])], true⟩
def sI_vsingle : Nat → List Int → Int
  | 0, [x0, x1, x2, x3, x4, x5] => (fun (a : Sc) => vsingle a) ⟨x0, x1, x2, x3, x4, x5⟩
  | _, _ => 0
def sB_vsingle : Nat → List Int → Bool
  | 1, [x0, x1, x2, x3, x4, x5] => (fun (a : Sc) => vones a) ⟨x0, x1, x2, x3, x4, x5⟩
  | _, _ => false
theorem sK_vsingle {sp : Spec} {key : Nat} (hI : sp.I key = sI_vsingle) (hB : sp.B key = sB_vsingle) : SmOk Try.prog sp (sM_vsingle key) := by
  refine SmOk.of (.inl ⟨run_enter Try.func43 (by kernel_rfl) (by kernel_rfl), fun xs vals h => ?_⟩) (.inl rfl)
  obtain ⟨_, _, _, p1, h1, rfl⟩ := shA h
  obtain ⟨_, _, _, d1_0, p1_0, rfl⟩ := cksC p1
  obtain ⟨x0, rfl, rfl, gx0⟩ := ckI d1_0
  obtain ⟨_, _, _, d1_1, p1_1, rfl⟩ := cksC p1_0
  obtain ⟨x1, rfl, rfl, gx1⟩ := ckI d1_1
  obtain ⟨_, _, _, d1_2, p1_2, rfl⟩ := cksC p1_1
  obtain ⟨x2, rfl, rfl, gx2⟩ := ckI d1_2
  obtain ⟨_, _, _, d1_3, p1_3, rfl⟩ := cksC p1_2
  obtain ⟨x3, rfl, rfl, gx3⟩ := ckI d1_3
  obtain ⟨_, _, _, d1_4, p1_4, rfl⟩ := cksC p1_3
  obtain ⟨x4, rfl, rfl, gx4⟩ := ckI d1_4
  obtain ⟨_, _, _, d1_5, p1_5, rfl⟩ := cksC p1_4
  obtain ⟨x5, rfl, rfl, gx5⟩ := ckI d1_5
  obtain ⟨rfl, rfl⟩ := cksN p1_5
  obtain ⟨rfl, rfl⟩ := shN h1
  refine ⟨_, sX_vsingle ⟨x0, x1, x2, x3, x4, x5⟩ ⟨gx0, gx1, gx2, gx3, gx4, gx5⟩, fun ρ v0 he => ?_⟩
  have he' : ρ.i (v0 + 0) = sp.I key 0 [x0, x1, x2, x3, x4, x5] ∧ ρ.b (v0 + 1) = sp.B key 1 [x0, x1, x2, x3, x4, x5] ∧ True := he
  simp only [hI, hB] at he'
  obtain ⟨e0, e1, -⟩ := he'
  show some (.tuple #[.int .u64 (ρ.i (v0 + 0)), .bool (ρ.b (v0 + 1))] : Value) = _
  rw [e0, e1]
  rfl
end Go.Proofs.Ytcngfmhhaleoaaa

/- Contracts of package value, by the symbolic run. -/
set_option linter.unusedVariables false
set_option linter.unusedSimpArgs false
namespace Go.Proofs.Ytcngfmhhaleoaaa
open Go.RowKit Go.ChangeShapes Go.WideShapes

def tys_VaB : List (Nat × TI) := [(2, ⟨false, 1, [.int .i64 (.lit 0)], [], none, some .i64, false, false⟩),
  (3, ⟨false, 1, [.int .i64 (.lit 0)], [], none, some .i64, false, false⟩),
  (22, ⟨false, 1, [.int .u64 (.lit 0)], [], none, some .u64, false, false⟩),
  (24, ⟨true, 4, [.int .u64 (.lit 0), .int .u64 (.lit 0), .int .i64 (.lit 0), .int .i64 (.lit 0)], [(0, 22), (1, 22), (2, 2), (3, 2)], none, none, false, false⟩),
  (33, ⟨false, 1, [.int .i8 (.lit 0)], [], none, some .i8, false, false⟩),
  (50, ⟨true, 2, [.int .u64 (.lit 0), .int .u64 (.lit 0)], [(0, 22), (1, 22)], none, none, false, false⟩),
  (52, ⟨true, 6, [.int .u64 (.lit 0), .int .u64 (.lit 0), .int .i64 (.lit 0), .int .i64 (.lit 0), .int .u64 (.lit 0), .int .u64 (.lit 0)], [(0, 24), (4, 50)], none, none, false, false⟩)]
set_option maxRecDepth 100000 in
theorem tysck_VaB : (tys_VaB.all fun p => ckTI Try.prog p.1 p.2) = true := by kernel_rfl
theorem tysne_VaB : (tys_VaB.all fun p => !p.2.eqok) = true := by kernel_rfl
theorem tysok_VaB : ∀ t i, (t, i) ∈ tys_VaB → TIok Try.prog t i := by
  intro t i h
  have h1 := all_at (f := fun _ i => !i.eqok) tysne_VaB h
  exact TIok_of (all_at (f := ckTI Try.prog) tysck_VaB h) (fun he => by simp [he] at h1) (fun he => by simp [he] at h1)
def sT_vcom : Tr :=
(.call 0 [.int .i64] (.cons (.bin .xor .u64 (.var 0) (.var 1)) .nil) 4
 (.br (.lt (.lit 0) (.var 4))
 (.br (.lt (.bin .sub .i64 (.lit 64) (.var 4)) (.lit 0))
  .panic
  (.leaf (.agg [.int .u64 (.bin .andNot .u64 (.var 0) (.bin .sub .u64 (.bin .shl .u64 (.lit 1) (.bin .sub .i64 (.lit 64) (.var 4))) (.lit 1))), .int .u64 (.bin .sub .u64 (.bin .shl .u64 (.lit 1) (.bin .sub .i64 (.lit 64) (.var 4))) (.lit 1))])))
 (.leaf (.agg [.int .u64 (.bin .andNot .u64 (.var 0) (.lit 18446744073709551615)), .int .u64 (.lit 18446744073709551615)]))))
def sP_vcom : Spec := ⟨fun k => match k with | 0 => sI_lz | _ => fun _ _ => 0, fun k => match k with | 0 => sB_lz | _ => fun _ _ => false⟩
set_option maxRecDepth 100000 in
theorem sR_vcom : funK ⟨tys_VaB, [sM_lz 0]⟩ 200 Try.f94 [.agg [.int .u64 (.var 0), .int .u64 (.var 1), .int .i64 (.var 2), .int .i64 (.var 3)]] ⟨[], [], [some .u64, some .u64, some .i64, some .i64]⟩ = sT_vcom := by kernel_rfl
set_option maxRecDepth 100000 in
set_option maxHeartbeats 8000000 in
theorem sX_vcom (a : Rg) (ha : Rg.ok a) : (∀ w, Calls Try.prog 94 #[.agg #[.int .u64 a.ul, .int .u64 a.uh, .int .i64 a.sl, .int .i64 a.sh]] w fun e w' => e = .returned (.agg #[.int .u64 (kcom a).v, .int .u64 (kcom a).m]) ∧ Ext w w') ∧ valIn (.agg #[.int .u64 (kcom a).v, .int .u64 (kcom a).m]) = true := by
  refine fun_calls (cx := ⟨tys_VaB, [sM_lz 0]⟩) (sp := sP_vcom) (t := sT_vcom) (by kernel_rfl) tysok_VaB (List.forall_mem_cons.2 ⟨sK_lz rfl rfl, fun _ h => (by cases h)⟩) (keys_of (by kernel_rfl)) Try.func94 ⟨fun n => ([a.ul, a.uh, a.sl, a.sh] : List Int).getD n 0, fun n => ([false, false, false, false] : List Bool).getD n false⟩ sR_vcom (by kernel_rfl) ?_ rfl (by intro p hp; cases hp) ?_ ?_
  · intro n k hk
    have hlt : n < 4 := by
      rcases Nat.lt_or_ge n 4 with h | h
      · exact h
      · rw [List.getElem?_eq_none h] at hk; cases hk
    rcases (show n = 0 ∨ n = 1 ∨ n = 2 ∨ n = 3 by omega) with rfl | rfl | rfl | rfl
    · cases hk; exact ha.1
    · cases hk; exact ha.2.1
    · cases hk; exact ha.2.2.1
    · cases hk; exact ha.2.2.2
  · intro ρ hag
    have g0 : ρ.i 0 = a.ul := (hag 0 (by decide)).1.symm
    have g1 : ρ.i 1 = a.uh := (hag 1 (by decide)).1.symm
    have g2 : ρ.i 2 = a.sl := (hag 2 (by decide)).1.symm
    have g3 : ρ.i 3 = a.sh := (hag 3 (by decide)).1.symm
    show some ([.agg #[.int .u64 (ρ.i 0), .int .u64 (ρ.i 1), .int .i64 (ρ.i 2), .int .i64 (ρ.i 3)]] : List Value) = _
    rw [g0, g1, g2, g3]
  · intro ρ hag
    have g0 : ρ.i 0 = a.ul := (hag 0 (by decide)).1.symm
    have g1 : ρ.i 1 = a.uh := (hag 1 (by decide)).1.symm
    have g2 : ρ.i 2 = a.sl := (hag 2 (by decide)).1.symm
    have g3 : ρ.i 3 = a.sh := (hag 3 (by decide)).1.symm
    simp only [sT_vcom, Tr.asks, eqs, E.I, E.B, E.L, V.den, C.den, denL, den0, den0L, Option.map_some, Nat.add_zero, Nat.reduceAdd, and_true, Rg.eta, Sc.eta_r, Sc.eta_k, Sc.eta_2, g0, g1, g2, g3]
    simp only [sP_vcom, b01, Kn.eta, Pi.eta, Pu.eta, Rg.eta, Sc.eta, Sc.eta_r, Sc.eta_k, Sc.eta_2, sI_lz, sB_lz]
    intro e4
    (try simp only [e4, Kn.eta, Pi.eta, Pu.eta, Rg.eta, Sc.eta, Sc.eta_r, Sc.eta_k, Sc.eta_2])
    (try clear e4)
    refine ⟨fun c0 => ?_, fun c0 => ?_⟩
    · skip
      refine ⟨fun c1 => ?_, fun c1 => ?_⟩
      · skip
        show False
        (have hx := xor_bd a.ul a.uh; have hb : blenN (bits .xor .u64 a.ul a.uh).toNat ≤ 64 := blen_le (by omega); have h1 : IntKind.i64.wrap (64 - (64 - (blenN (bits .xor .u64 a.ul a.uh).toNat : Int))) < 0 := of_decide_eq_true c1; rw [w_i64] at h1; omega)
      · skip
        all_goals
          refine congrArg some ?_
          exact agg_Kn (kcom_t (Rg.wf_of ha))
    · skip
      all_goals
        refine congrArg some ?_
        exact agg_Kn (kcom_f (Rg.wf_of ha) c0)
def sM_vcom (key : Nat) : Sm := ⟨94, key, [(true, [.int .u64, .int .u64, .int .i64, .int .i64])], [(true, [.int .u64, .int .u64])], false⟩
def sI_vcom : Nat → List Int → Int
  | 0, [x0, x1, x2, x3] => (fun (a : Rg) => (kcom a).v) ⟨x0, x1, x2, x3⟩
  | 1, [x0, x1, x2, x3] => (fun (a : Rg) => (kcom a).m) ⟨x0, x1, x2, x3⟩
  | _, _ => 0
def sB_vcom : Nat → List Int → Bool
  | _, _ => false
theorem sK_vcom {sp : Spec} {key : Nat} (hI : sp.I key = sI_vcom) (hB : sp.B key = sB_vcom) : SmOk Try.prog sp (sM_vcom key) := by
  refine SmOk.of (.inl ⟨run_enter Try.func94 (by kernel_rfl) (by kernel_rfl), fun xs vals h => ?_⟩) (.inr (.inl ⟨_, rfl⟩))
  obtain ⟨_, _, _, p1, h1, rfl⟩ := shA h
  obtain ⟨_, _, _, d1_0, p1_0, rfl⟩ := cksC p1
  obtain ⟨x0, rfl, rfl, gx0⟩ := ckI d1_0
  obtain ⟨_, _, _, d1_1, p1_1, rfl⟩ := cksC p1_0
  obtain ⟨x1, rfl, rfl, gx1⟩ := ckI d1_1
  obtain ⟨_, _, _, d1_2, p1_2, rfl⟩ := cksC p1_1
  obtain ⟨x2, rfl, rfl, gx2⟩ := ckI d1_2
  obtain ⟨_, _, _, d1_3, p1_3, rfl⟩ := cksC p1_2
  obtain ⟨x3, rfl, rfl, gx3⟩ := ckI d1_3
  obtain ⟨rfl, rfl⟩ := cksN p1_3
  obtain ⟨rfl, rfl⟩ := shN h1
  refine ⟨_, sX_vcom ⟨x0, x1, x2, x3⟩ ⟨gx0, gx1, gx2, gx3⟩, fun ρ v0 he => ?_⟩
  have he' : ρ.i (v0 + 0) = sp.I key 0 [x0, x1, x2, x3] ∧ ρ.i (v0 + 1) = sp.I key 1 [x0, x1, x2, x3] ∧ True := he
  simp only [hI, hB] at he'
  obtain ⟨e0, e1, -⟩ := he'
  show some (.agg #[.int .u64 (ρ.i (v0 + 0)), .int .u64 (ρ.i (v0 + 1))] : Value) = _
  rw [e0, e1]
  rfl
def sT_vnar : Tr :=
(.call 0 [.bool] (.cons (.var 0) (.cons (.var 1) (.cons (.var 2) (.cons (.var 3) (.cons (.var 4) (.cons (.var 5) .nil)))))) 6
 (.br (.bvar 6)
 (.call 2 [.int .u64, .int .u64, .int .i64, .int .i64] .nil 7
  (.call 3 [.int .u64, .int .u64, .int .i64, .int .i64, .bool] (.cons (.var 0) (.cons (.var 1) (.cons (.var 2) (.cons (.var 3) (.cons (.var 4) (.cons (.bin .or .u64 (.var 4) (.var 5)) (.cons (.var 9) (.cons (.var 10) .nil)))))))) 11
  (.br (.bvar 15)
  (.call 5 [.int .u64, .int .u64] (.cons (.var 11) (.cons (.var 12) (.cons (.var 13) (.cons (.var 14) .nil)))) 16
   (.call 4 [.int .u64, .int .u64, .bool] (.cons (.var 4) (.cons (.var 5) (.cons (.var 16) (.cons (.var 17) .nil)))) 18
   (.br (.bvar 20)
   (.call 3 [.int .u64, .int .u64, .int .i64, .int .i64, .bool] (.cons (.var 11) (.cons (.var 12) (.cons (.var 13) (.cons (.var 14) (.cons (.var 18) (.cons (.bin .or .u64 (.var 18) (.var 19)) (.cons (.var 9) (.cons (.var 10) .nil)))))))) 21
    (.br (.bvar 25)
    (.call 5 [.int .u64, .int .u64] (.cons (.var 21) (.cons (.var 22) (.cons (.var 23) (.cons (.var 24) .nil)))) 26
     (.call 4 [.int .u64, .int .u64, .bool] (.cons (.var 18) (.cons (.var 19) (.cons (.var 26) (.cons (.var 27) .nil)))) 28
     (.br (.bvar 30)
     (.leaf (.tup [(true, [.int .u64 (.var 21), .int .u64 (.var 22), .int .i64 (.var 23), .int .i64 (.var 24), .int .u64 (.var 28), .int .u64 (.var 29)]), (false, [.bool (.tt true)])]))
     (.call 1 [.int .u64, .int .u64, .int .i64, .int .i64, .int .u64, .int .u64] .nil 31
      (.leaf (.tup [(true, [.int .u64 (.var 31), .int .u64 (.var 32), .int .i64 (.var 33), .int .i64 (.var 34), .int .u64 (.var 35), .int .u64 (.var 36)]), (false, [.bool (.tt false)])]))))))
    (.call 1 [.int .u64, .int .u64, .int .i64, .int .i64, .int .u64, .int .u64] .nil 26
     (.leaf (.tup [(true, [.int .u64 (.var 26), .int .u64 (.var 27), .int .i64 (.var 28), .int .i64 (.var 29), .int .u64 (.var 30), .int .u64 (.var 31)]), (false, [.bool (.tt false)])])))))
   (.call 1 [.int .u64, .int .u64, .int .i64, .int .i64, .int .u64, .int .u64] .nil 21
    (.leaf (.tup [(true, [.int .u64 (.var 21), .int .u64 (.var 22), .int .i64 (.var 23), .int .i64 (.var 24), .int .u64 (.var 25), .int .u64 (.var 26)]), (false, [.bool (.tt false)])]))))))
  (.call 1 [.int .u64, .int .u64, .int .i64, .int .i64, .int .u64, .int .u64] .nil 16
   (.leaf (.tup [(true, [.int .u64 (.var 16), .int .u64 (.var 17), .int .i64 (.var 18), .int .i64 (.var 19), .int .u64 (.var 20), .int .u64 (.var 21)]), (false, [.bool (.tt false)])]))))))
 (.call 1 [.int .u64, .int .u64, .int .i64, .int .i64, .int .u64, .int .u64] .nil 7
  (.leaf (.tup [(true, [.int .u64 (.var 7), .int .u64 (.var 8), .int .i64 (.var 9), .int .i64 (.var 10), .int .u64 (.var 11), .int .u64 (.var 12)]), (false, [.bool (.tt false)])])))))
def sP_vnar : Spec := ⟨fun k => match k with | 0 => sI_vmay | 1 => sI_vall | 2 => sI_all | 3 => sI_meet | 4 => sI_kmeet | 5 => sI_vcom | _ => fun _ _ => 0, fun k => match k with | 0 => sB_vmay | 1 => sB_vall | 2 => sB_all | 3 => sB_meet | 4 => sB_kmeet | 5 => sB_vcom | _ => fun _ _ => false⟩
set_option maxRecDepth 100000 in
theorem sR_vnar : funK ⟨tys_VaB, [sM_vmay 0, sM_vall 1, sM_all 2, sM_meet 3, sM_kmeet 4, sM_vcom 5]⟩ 200 Try.f45 [.agg [.int .u64 (.var 0), .int .u64 (.var 1), .int .i64 (.var 2), .int .i64 (.var 3), .int .u64 (.var 4), .int .u64 (.var 5)]] ⟨[], [], [some .u64, some .u64, some .i64, some .i64, some .u64, some .u64]⟩ = sT_vnar := by kernel_rfl
set_option maxRecDepth 100000 in
set_option maxHeartbeats 8000000 in
theorem sX_vnar (a : Sc) (ha : Sc.ok a) : (∀ w, Calls Try.prog 45 #[.agg #[.int .u64 a.ul, .int .u64 a.uh, .int .i64 a.sl, .int .i64 a.sh, .int .u64 a.v, .int .u64 a.m]] w fun e w' => e = .returned (.tuple #[.agg #[.int .u64 (vnar a).ul, .int .u64 (vnar a).uh, .int .i64 (vnar a).sl, .int .i64 (vnar a).sh, .int .u64 (vnar a).v, .int .u64 (vnar a).m], .bool (vnok a)]) ∧ Ext w w') ∧ valIn (.tuple #[.agg #[.int .u64 (vnar a).ul, .int .u64 (vnar a).uh, .int .i64 (vnar a).sl, .int .i64 (vnar a).sh, .int .u64 (vnar a).v, .int .u64 (vnar a).m], .bool (vnok a)]) = true := by
  refine fun_calls (cx := ⟨tys_VaB, [sM_vmay 0, sM_vall 1, sM_all 2, sM_meet 3, sM_kmeet 4, sM_vcom 5]⟩) (sp := sP_vnar) (t := sT_vnar) (by kernel_rfl) tysok_VaB (List.forall_mem_cons.2 ⟨sK_vmay rfl rfl, List.forall_mem_cons.2 ⟨sK_vall rfl rfl, List.forall_mem_cons.2 ⟨sK_all rfl rfl, List.forall_mem_cons.2 ⟨sK_meet rfl rfl, List.forall_mem_cons.2 ⟨sK_kmeet rfl rfl, List.forall_mem_cons.2 ⟨sK_vcom rfl rfl, fun _ h => (by cases h)⟩⟩⟩⟩⟩⟩) (keys_of (by kernel_rfl)) Try.func45 ⟨fun n => ([a.ul, a.uh, a.sl, a.sh, a.v, a.m] : List Int).getD n 0, fun n => ([false, false, false, false, false, false] : List Bool).getD n false⟩ sR_vnar (by kernel_rfl) ?_ rfl (by intro p hp; cases hp) ?_ ?_
  · intro n k hk
    have hlt : n < 6 := by
      rcases Nat.lt_or_ge n 6 with h | h
      · exact h
      · rw [List.getElem?_eq_none h] at hk; cases hk
    rcases (show n = 0 ∨ n = 1 ∨ n = 2 ∨ n = 3 ∨ n = 4 ∨ n = 5 by omega) with rfl | rfl | rfl | rfl | rfl | rfl
    · cases hk; exact ha.1
    · cases hk; exact ha.2.1
    · cases hk; exact ha.2.2.1
    · cases hk; exact ha.2.2.2.1
    · cases hk; exact ha.2.2.2.2.1
    · cases hk; exact ha.2.2.2.2.2
  · intro ρ hag
    have g0 : ρ.i 0 = a.ul := (hag 0 (by decide)).1.symm
    have g1 : ρ.i 1 = a.uh := (hag 1 (by decide)).1.symm
    have g2 : ρ.i 2 = a.sl := (hag 2 (by decide)).1.symm
    have g3 : ρ.i 3 = a.sh := (hag 3 (by decide)).1.symm
    have g4 : ρ.i 4 = a.v := (hag 4 (by decide)).1.symm
    have g5 : ρ.i 5 = a.m := (hag 5 (by decide)).1.symm
    show some ([.agg #[.int .u64 (ρ.i 0), .int .u64 (ρ.i 1), .int .i64 (ρ.i 2), .int .i64 (ρ.i 3), .int .u64 (ρ.i 4), .int .u64 (ρ.i 5)]] : List Value) = _
    rw [g0, g1, g2, g3, g4, g5]
  · intro ρ hag
    have g0 : ρ.i 0 = a.ul := (hag 0 (by decide)).1.symm
    have g1 : ρ.i 1 = a.uh := (hag 1 (by decide)).1.symm
    have g2 : ρ.i 2 = a.sl := (hag 2 (by decide)).1.symm
    have g3 : ρ.i 3 = a.sh := (hag 3 (by decide)).1.symm
    have g4 : ρ.i 4 = a.v := (hag 4 (by decide)).1.symm
    have g5 : ρ.i 5 = a.m := (hag 5 (by decide)).1.symm
    simp only [sT_vnar, Tr.asks, eqs, E.I, E.B, E.L, V.den, C.den, denL, den0, den0L, Option.map_some, Nat.add_zero, Nat.reduceAdd, and_true, Sc.eta, Sc.eta_r, Sc.eta_k, Sc.eta_2, g0, g1, g2, g3, g4, g5]
    simp only [sP_vnar, b01, Kn.eta, Pi.eta, Pu.eta, Rg.eta, Sc.eta, Sc.eta_r, Sc.eta_k, Sc.eta_2, sI_vmay, sB_vmay, sI_vall, sB_vall, sI_all, sB_all, sI_meet, sB_meet, sI_kmeet, sB_kmeet, sI_vcom, sB_vcom]
    intro e6
    (try simp only [e6, Kn.eta, Pi.eta, Pu.eta, Rg.eta, Sc.eta, Sc.eta_r, Sc.eta_k, Sc.eta_2])
    (try clear e6)
    refine ⟨fun c0 => ?_, fun c0 => ?_⟩
    · skip
      rintro ⟨e7, e8, e9, e10⟩
      (try simp only [e7, e8, e9, e10, Kn.eta, Pi.eta, Pu.eta, Rg.eta, Sc.eta, Sc.eta_r, Sc.eta_k, Sc.eta_2])
      (try clear e7 e8 e9 e10)
      rintro ⟨e11, e12, e13, e14, e15⟩
      (try simp only [e11, e12, e13, e14, e15, Kn.eta, Pi.eta, Pu.eta, Rg.eta, Sc.eta, Sc.eta_r, Sc.eta_k, Sc.eta_2])
      (try clear e11 e12 e13 e14 e15)
      refine ⟨fun c1 => ?_, fun c1 => ?_⟩
      · skip
        rintro ⟨e16, e17⟩
        (try simp only [e16, e17, Kn.eta, Pi.eta, Pu.eta, Rg.eta, Sc.eta, Sc.eta_r, Sc.eta_k, Sc.eta_2])
        (try clear e16 e17)
        rintro ⟨e18, e19, e20⟩
        (try simp only [e18, e19, e20, Kn.eta, Pi.eta, Pu.eta, Rg.eta, Sc.eta, Sc.eta_r, Sc.eta_k, Sc.eta_2])
        (try clear e18 e19 e20)
        refine ⟨fun c2 => ?_, fun c2 => ?_⟩
        · skip
          rintro ⟨e21, e22, e23, e24, e25⟩
          (try simp only [e21, e22, e23, e24, e25, Kn.eta, Pi.eta, Pu.eta, Rg.eta, Sc.eta, Sc.eta_r, Sc.eta_k, Sc.eta_2])
          (try clear e21 e22 e23 e24 e25)
          refine ⟨fun c3 => ?_, fun c3 => ?_⟩
          · skip
            rintro ⟨e26, e27⟩
            (try simp only [e26, e27, Kn.eta, Pi.eta, Pu.eta, Rg.eta, Sc.eta, Sc.eta_r, Sc.eta_k, Sc.eta_2])
            (try clear e26 e27)
            rintro ⟨e28, e29, e30⟩
            (try simp only [e28, e29, e30, Kn.eta, Pi.eta, Pu.eta, Rg.eta, Sc.eta, Sc.eta_r, Sc.eta_k, Sc.eta_2])
            (try clear e28 e29 e30)
            refine ⟨fun c4 => ?_, fun c4 => ?_⟩
            · skip
              all_goals
                refine congrArg some ?_
                (have q := vn_t (a := a) c0 c1 c2 c3 c4; rw [q.1, q.2]; try rfl)
            · skip
              rintro ⟨e31, e32, e33, e34, e35, e36⟩
              (try simp only [e31, e32, e33, e34, e35, e36, Kn.eta, Pi.eta, Pu.eta, Rg.eta, Sc.eta, Sc.eta_r, Sc.eta_k, Sc.eta_2])
              (try clear e31 e32 e33 e34 e35 e36)
              all_goals
                refine congrArg some ?_
                (have q := vn_f (a := a) (.inr (.inr (.inr (.inr (c4))))); rw [q.1, q.2]; try rfl)
          · skip
            rintro ⟨e26, e27, e28, e29, e30, e31⟩
            (try simp only [e26, e27, e28, e29, e30, e31, Kn.eta, Pi.eta, Pu.eta, Rg.eta, Sc.eta, Sc.eta_r, Sc.eta_k, Sc.eta_2])
            (try clear e26 e27 e28 e29 e30 e31)
            all_goals
              refine congrArg some ?_
              (have q := vn_f (a := a) (.inr (.inr (.inr (.inl c3)))); rw [q.1, q.2]; try rfl)
        · skip
          rintro ⟨e21, e22, e23, e24, e25, e26⟩
          (try simp only [e21, e22, e23, e24, e25, e26, Kn.eta, Pi.eta, Pu.eta, Rg.eta, Sc.eta, Sc.eta_r, Sc.eta_k, Sc.eta_2])
          (try clear e21 e22 e23 e24 e25 e26)
          all_goals
            refine congrArg some ?_
            (have q := vn_f (a := a) (.inr (.inr (.inl c2))); rw [q.1, q.2]; try rfl)
      · skip
        rintro ⟨e16, e17, e18, e19, e20, e21⟩
        (try simp only [e16, e17, e18, e19, e20, e21, Kn.eta, Pi.eta, Pu.eta, Rg.eta, Sc.eta, Sc.eta_r, Sc.eta_k, Sc.eta_2])
        (try clear e16 e17 e18 e19 e20 e21)
        all_goals
          refine congrArg some ?_
          (have q := vn_f (a := a) (.inr (.inl c1)); rw [q.1, q.2]; try rfl)
    · skip
      rintro ⟨e7, e8, e9, e10, e11, e12⟩
      (try simp only [e7, e8, e9, e10, e11, e12, Kn.eta, Pi.eta, Pu.eta, Rg.eta, Sc.eta, Sc.eta_r, Sc.eta_k, Sc.eta_2])
      (try clear e7 e8 e9 e10 e11 e12)
      all_goals
        refine congrArg some ?_
        (have q := vn_f (a := a) (.inl c0); rw [q.1, q.2]; try rfl)
def sM_vnar (key : Nat) : Sm := ⟨45, key, [(true, [.int .u64, .int .u64, .int .i64, .int .i64, .int .u64, .int .u64])], [(true, [.int .u64, .int .u64, .int .i64, .int .i64, .int .u64, .int .u64]), (false, [.bool])], true⟩
def sI_vnar : Nat → List Int → Int
  | 0, [x0, x1, x2, x3, x4, x5] => (fun (a : Sc) => (vnar a).ul) ⟨x0, x1, x2, x3, x4, x5⟩
  | 1, [x0, x1, x2, x3, x4, x5] => (fun (a : Sc) => (vnar a).uh) ⟨x0, x1, x2, x3, x4, x5⟩
  | 2, [x0, x1, x2, x3, x4, x5] => (fun (a : Sc) => (vnar a).sl) ⟨x0, x1, x2, x3, x4, x5⟩
  | 3, [x0, x1, x2, x3, x4, x5] => (fun (a : Sc) => (vnar a).sh) ⟨x0, x1, x2, x3, x4, x5⟩
  | 4, [x0, x1, x2, x3, x4, x5] => (fun (a : Sc) => (vnar a).v) ⟨x0, x1, x2, x3, x4, x5⟩
  | 5, [x0, x1, x2, x3, x4, x5] => (fun (a : Sc) => (vnar a).m) ⟨x0, x1, x2, x3, x4, x5⟩
  | _, _ => 0
def sB_vnar : Nat → List Int → Bool
  | 6, [x0, x1, x2, x3, x4, x5] => (fun (a : Sc) => vnok a) ⟨x0, x1, x2, x3, x4, x5⟩
  | _, _ => false
theorem sK_vnar {sp : Spec} {key : Nat} (hI : sp.I key = sI_vnar) (hB : sp.B key = sB_vnar) : SmOk Try.prog sp (sM_vnar key) := by
  refine SmOk.of (.inl ⟨run_enter Try.func45 (by kernel_rfl) (by kernel_rfl), fun xs vals h => ?_⟩) (.inl rfl)
  obtain ⟨_, _, _, p1, h1, rfl⟩ := shA h
  obtain ⟨_, _, _, d1_0, p1_0, rfl⟩ := cksC p1
  obtain ⟨x0, rfl, rfl, gx0⟩ := ckI d1_0
  obtain ⟨_, _, _, d1_1, p1_1, rfl⟩ := cksC p1_0
  obtain ⟨x1, rfl, rfl, gx1⟩ := ckI d1_1
  obtain ⟨_, _, _, d1_2, p1_2, rfl⟩ := cksC p1_1
  obtain ⟨x2, rfl, rfl, gx2⟩ := ckI d1_2
  obtain ⟨_, _, _, d1_3, p1_3, rfl⟩ := cksC p1_2
  obtain ⟨x3, rfl, rfl, gx3⟩ := ckI d1_3
  obtain ⟨_, _, _, d1_4, p1_4, rfl⟩ := cksC p1_3
  obtain ⟨x4, rfl, rfl, gx4⟩ := ckI d1_4
  obtain ⟨_, _, _, d1_5, p1_5, rfl⟩ := cksC p1_4
  obtain ⟨x5, rfl, rfl, gx5⟩ := ckI d1_5
  obtain ⟨rfl, rfl⟩ := cksN p1_5
  obtain ⟨rfl, rfl⟩ := shN h1
  refine ⟨_, sX_vnar ⟨x0, x1, x2, x3, x4, x5⟩ ⟨gx0, gx1, gx2, gx3, gx4, gx5⟩, fun ρ v0 he => ?_⟩
  have he' : ρ.i (v0 + 0) = sp.I key 0 [x0, x1, x2, x3, x4, x5] ∧ ρ.i (v0 + 1) = sp.I key 1 [x0, x1, x2, x3, x4, x5] ∧ ρ.i (v0 + 2) = sp.I key 2 [x0, x1, x2, x3, x4, x5] ∧ ρ.i (v0 + 3) = sp.I key 3 [x0, x1, x2, x3, x4, x5] ∧ ρ.i (v0 + 4) = sp.I key 4 [x0, x1, x2, x3, x4, x5] ∧ ρ.i (v0 + 5) = sp.I key 5 [x0, x1, x2, x3, x4, x5] ∧ ρ.b (v0 + 6) = sp.B key 6 [x0, x1, x2, x3, x4, x5] ∧ True := he
  simp only [hI, hB] at he'
  obtain ⟨e0, e1, e2, e3, e4, e5, e6, -⟩ := he'
  show some (.tuple #[.agg #[.int .u64 (ρ.i (v0 + 0)), .int .u64 (ρ.i (v0 + 1)), .int .i64 (ρ.i (v0 + 2)), .int .i64 (ρ.i (v0 + 3)), .int .u64 (ρ.i (v0 + 4)), .int .u64 (ρ.i (v0 + 5))], .bool (ρ.b (v0 + 6))] : Value) = _
  rw [e0, e1, e2, e3, e4, e5, e6]
  rfl
def sT_vnard : Tr :=
(.call 0 [.int .u64, .int .u64, .int .i64, .int .i64, .int .u64, .int .u64, .bool] (.cons (.var 0) (.cons (.var 1) (.cons (.var 2) (.cons (.var 3) (.cons (.var 4) (.cons (.var 5) .nil)))))) 6
 (.leaf (.agg [.int .u64 (.var 6), .int .u64 (.var 7), .int .i64 (.var 8), .int .i64 (.var 9), .int .u64 (.var 10), .int .u64 (.var 11)])))
def sP_vnard : Spec := ⟨fun k => match k with | 0 => sI_vnar | _ => fun _ _ => 0, fun k => match k with | 0 => sB_vnar | _ => fun _ _ => false⟩
set_option maxRecDepth 100000 in
theorem sR_vnard : funK ⟨tys_VaB, [sM_vnar 0]⟩ 200 Try.f85 [.agg [.int .u64 (.var 0), .int .u64 (.var 1), .int .i64 (.var 2), .int .i64 (.var 3), .int .u64 (.var 4), .int .u64 (.var 5)]] ⟨[], [], [some .u64, some .u64, some .i64, some .i64, some .u64, some .u64]⟩ = sT_vnard := by kernel_rfl
set_option maxRecDepth 100000 in
set_option maxHeartbeats 8000000 in
theorem sX_vnard (a : Sc) (ha : Sc.ok a) : (∀ w, Calls Try.prog 85 #[.agg #[.int .u64 a.ul, .int .u64 a.uh, .int .i64 a.sl, .int .i64 a.sh, .int .u64 a.v, .int .u64 a.m]] w fun e w' => e = .returned (.agg #[.int .u64 (vnar a).ul, .int .u64 (vnar a).uh, .int .i64 (vnar a).sl, .int .i64 (vnar a).sh, .int .u64 (vnar a).v, .int .u64 (vnar a).m]) ∧ Ext w w') ∧ valIn (.agg #[.int .u64 (vnar a).ul, .int .u64 (vnar a).uh, .int .i64 (vnar a).sl, .int .i64 (vnar a).sh, .int .u64 (vnar a).v, .int .u64 (vnar a).m]) = true := by
  refine fun_calls (cx := ⟨tys_VaB, [sM_vnar 0]⟩) (sp := sP_vnard) (t := sT_vnard) (by kernel_rfl) tysok_VaB (List.forall_mem_cons.2 ⟨sK_vnar rfl rfl, fun _ h => (by cases h)⟩) (keys_of (by kernel_rfl)) Try.func85 ⟨fun n => ([a.ul, a.uh, a.sl, a.sh, a.v, a.m] : List Int).getD n 0, fun n => ([false, false, false, false, false, false] : List Bool).getD n false⟩ sR_vnard (by kernel_rfl) ?_ rfl (by intro p hp; cases hp) ?_ ?_
  · intro n k hk
    have hlt : n < 6 := by
      rcases Nat.lt_or_ge n 6 with h | h
      · exact h
      · rw [List.getElem?_eq_none h] at hk; cases hk
    rcases (show n = 0 ∨ n = 1 ∨ n = 2 ∨ n = 3 ∨ n = 4 ∨ n = 5 by omega) with rfl | rfl | rfl | rfl | rfl | rfl
    · cases hk; exact ha.1
    · cases hk; exact ha.2.1
    · cases hk; exact ha.2.2.1
    · cases hk; exact ha.2.2.2.1
    · cases hk; exact ha.2.2.2.2.1
    · cases hk; exact ha.2.2.2.2.2
  · intro ρ hag
    have g0 : ρ.i 0 = a.ul := (hag 0 (by decide)).1.symm
    have g1 : ρ.i 1 = a.uh := (hag 1 (by decide)).1.symm
    have g2 : ρ.i 2 = a.sl := (hag 2 (by decide)).1.symm
    have g3 : ρ.i 3 = a.sh := (hag 3 (by decide)).1.symm
    have g4 : ρ.i 4 = a.v := (hag 4 (by decide)).1.symm
    have g5 : ρ.i 5 = a.m := (hag 5 (by decide)).1.symm
    show some ([.agg #[.int .u64 (ρ.i 0), .int .u64 (ρ.i 1), .int .i64 (ρ.i 2), .int .i64 (ρ.i 3), .int .u64 (ρ.i 4), .int .u64 (ρ.i 5)]] : List Value) = _
    rw [g0, g1, g2, g3, g4, g5]
  · intro ρ hag
    have g0 : ρ.i 0 = a.ul := (hag 0 (by decide)).1.symm
    have g1 : ρ.i 1 = a.uh := (hag 1 (by decide)).1.symm
    have g2 : ρ.i 2 = a.sl := (hag 2 (by decide)).1.symm
    have g3 : ρ.i 3 = a.sh := (hag 3 (by decide)).1.symm
    have g4 : ρ.i 4 = a.v := (hag 4 (by decide)).1.symm
    have g5 : ρ.i 5 = a.m := (hag 5 (by decide)).1.symm
    simp only [sT_vnard, Tr.asks, eqs, E.I, E.B, E.L, V.den, C.den, denL, den0, den0L, Option.map_some, Nat.add_zero, Nat.reduceAdd, and_true, Sc.eta, Sc.eta_r, Sc.eta_k, Sc.eta_2, g0, g1, g2, g3, g4, g5]
    simp only [sP_vnard, b01, Kn.eta, Pi.eta, Pu.eta, Rg.eta, Sc.eta, Sc.eta_r, Sc.eta_k, Sc.eta_2, sI_vnar, sB_vnar]
    rintro ⟨e6, e7, e8, e9, e10, e11, e12⟩
    (try simp only [e6, e7, e8, e9, e10, e11, e12, Kn.eta, Pi.eta, Pu.eta, Rg.eta, Sc.eta, Sc.eta_r, Sc.eta_k, Sc.eta_2])
    (try clear e6 e7 e8 e9 e10 e11 e12)
    all_goals
      refine congrArg some ?_
      rfl
def sM_vnard (key : Nat) : Sm := ⟨85, key, [(true, [.int .u64, .int .u64, .int .i64, .int .i64, .int .u64, .int .u64])], [(true, [.int .u64, .int .u64, .int .i64, .int .i64, .int .u64, .int .u64])], false⟩
def sI_vnard : Nat → List Int → Int
  | 0, [x0, x1, x2, x3, x4, x5] => (fun (a : Sc) => (vnar a).ul) ⟨x0, x1, x2, x3, x4, x5⟩
  | 1, [x0, x1, x2, x3, x4, x5] => (fun (a : Sc) => (vnar a).uh) ⟨x0, x1, x2, x3, x4, x5⟩
  | 2, [x0, x1, x2, x3, x4, x5] => (fun (a : Sc) => (vnar a).sl) ⟨x0, x1, x2, x3, x4, x5⟩
  | 3, [x0, x1, x2, x3, x4, x5] => (fun (a : Sc) => (vnar a).sh) ⟨x0, x1, x2, x3, x4, x5⟩
  | 4, [x0, x1, x2, x3, x4, x5] => (fun (a : Sc) => (vnar a).v) ⟨x0, x1, x2, x3, x4, x5⟩
  | 5, [x0, x1, x2, x3, x4, x5] => (fun (a : Sc) => (vnar a).m) ⟨x0, x1, x2, x3, x4, x5⟩
  | _, _ => 0
def sB_vnard : Nat → List Int → Bool
  | _, _ => false
theorem sK_vnard {sp : Spec} {key : Nat} (hI : sp.I key = sI_vnard) (hB : sp.B key = sB_vnard) : SmOk Try.prog sp (sM_vnard key) := by
  refine SmOk.of (.inl ⟨run_enter Try.func85 (by kernel_rfl) (by kernel_rfl), fun xs vals h => ?_⟩) (.inr (.inl ⟨_, rfl⟩))
  obtain ⟨_, _, _, p1, h1, rfl⟩ := shA h
  obtain ⟨_, _, _, d1_0, p1_0, rfl⟩ := cksC p1
  obtain ⟨x0, rfl, rfl, gx0⟩ := ckI d1_0
  obtain ⟨_, _, _, d1_1, p1_1, rfl⟩ := cksC p1_0
  obtain ⟨x1, rfl, rfl, gx1⟩ := ckI d1_1
  obtain ⟨_, _, _, d1_2, p1_2, rfl⟩ := cksC p1_1
  obtain ⟨x2, rfl, rfl, gx2⟩ := ckI d1_2
  obtain ⟨_, _, _, d1_3, p1_3, rfl⟩ := cksC p1_2
  obtain ⟨x3, rfl, rfl, gx3⟩ := ckI d1_3
  obtain ⟨_, _, _, d1_4, p1_4, rfl⟩ := cksC p1_3
  obtain ⟨x4, rfl, rfl, gx4⟩ := ckI d1_4
  obtain ⟨_, _, _, d1_5, p1_5, rfl⟩ := cksC p1_4
  obtain ⟨x5, rfl, rfl, gx5⟩ := ckI d1_5
  obtain ⟨rfl, rfl⟩ := cksN p1_5
  obtain ⟨rfl, rfl⟩ := shN h1
  refine ⟨_, sX_vnard ⟨x0, x1, x2, x3, x4, x5⟩ ⟨gx0, gx1, gx2, gx3, gx4, gx5⟩, fun ρ v0 he => ?_⟩
  have he' : ρ.i (v0 + 0) = sp.I key 0 [x0, x1, x2, x3, x4, x5] ∧ ρ.i (v0 + 1) = sp.I key 1 [x0, x1, x2, x3, x4, x5] ∧ ρ.i (v0 + 2) = sp.I key 2 [x0, x1, x2, x3, x4, x5] ∧ ρ.i (v0 + 3) = sp.I key 3 [x0, x1, x2, x3, x4, x5] ∧ ρ.i (v0 + 4) = sp.I key 4 [x0, x1, x2, x3, x4, x5] ∧ ρ.i (v0 + 5) = sp.I key 5 [x0, x1, x2, x3, x4, x5] ∧ True := he
  simp only [hI, hB] at he'
  obtain ⟨e0, e1, e2, e3, e4, e5, -⟩ := he'
  show some (.agg #[.int .u64 (ρ.i (v0 + 0)), .int .u64 (ρ.i (v0 + 1)), .int .i64 (ρ.i (v0 + 2)), .int .i64 (ρ.i (v0 + 3)), .int .u64 (ρ.i (v0 + 4)), .int .u64 (ρ.i (v0 + 5))] : Value) = _
  rw [e0, e1, e2, e3, e4, e5]
  rfl
def sT_vtwoj : Tr :=
(.call 0 [.bool] (.cons (.var 0) (.cons (.var 1) (.cons (.var 2) (.cons (.var 3) (.cons (.var 4) (.cons (.var 5) .nil)))))) 12
 (.br (.bvar 12)
 (.call 0 [.bool] (.cons (.var 6) (.cons (.var 7) (.cons (.var 8) (.cons (.var 9) (.cons (.var 10) (.cons (.var 11) .nil)))))) 13
  (.br (.bvar 13)
  (.call 3 [.int .u64, .int .u64, .int .i64, .int .i64] (.cons (.var 0) (.cons (.var 1) (.cons (.var 2) (.cons (.var 3) (.cons (.var 6) (.cons (.var 7) (.cons (.var 8) (.cons (.var 9) .nil)))))))) 14
   (.call 4 [.int .u64, .int .u64] (.cons (.var 4) (.cons (.var 5) (.cons (.var 10) (.cons (.var 11) .nil)))) 18
   (.call 2 [.int .u64, .int .u64, .int .i64, .int .i64, .int .u64, .int .u64] (.cons (.var 14) (.cons (.var 15) (.cons (.var 16) (.cons (.var 17) (.cons (.var 18) (.cons (.var 19) .nil)))))) 20
   (.leaf (.agg [.int .u64 (.var 20), .int .u64 (.var 21), .int .i64 (.var 22), .int .i64 (.var 23), .int .u64 (.var 24), .int .u64 (.var 25)])))))
  (.call 1 [.int .u64, .int .u64, .int .i64, .int .i64, .int .u64, .int .u64] .nil 14
   (.leaf (.agg [.int .u64 (.var 14), .int .u64 (.var 15), .int .i64 (.var 16), .int .i64 (.var 17), .int .u64 (.var 18), .int .u64 (.var 19)])))))
 (.call 1 [.int .u64, .int .u64, .int .i64, .int .i64, .int .u64, .int .u64] .nil 13
  (.leaf (.agg [.int .u64 (.var 13), .int .u64 (.var 14), .int .i64 (.var 15), .int .i64 (.var 16), .int .u64 (.var 17), .int .u64 (.var 18)])))))
def sP_vtwoj : Spec := ⟨fun k => match k with | 0 => sI_vmay | 1 => sI_vall | 2 => sI_vnard | 3 => sI_join | 4 => sI_kjoin | _ => fun _ _ => 0, fun k => match k with | 0 => sB_vmay | 1 => sB_vall | 2 => sB_vnard | 3 => sB_join | 4 => sB_kjoin | _ => fun _ _ => false⟩
set_option maxRecDepth 100000 in
theorem sR_vtwoj : funK ⟨tys_VaB, [sM_vmay 0, sM_vall 1, sM_vnard 2, sM_join 3, sM_kjoin 4]⟩ 200 Try.f95 [.agg [.int .u64 (.var 0), .int .u64 (.var 1), .int .i64 (.var 2), .int .i64 (.var 3), .int .u64 (.var 4), .int .u64 (.var 5)], .agg [.int .u64 (.var 6), .int .u64 (.var 7), .int .i64 (.var 8), .int .i64 (.var 9), .int .u64 (.var 10), .int .u64 (.var 11)], .one (.fn 28), .one (.fn 96)] ⟨[], [], [some .u64, some .u64, some .i64, some .i64, some .u64, some .u64, some .u64, some .u64, some .i64, some .i64, some .u64, some .u64]⟩ = sT_vtwoj := by kernel_rfl
set_option maxRecDepth 100000 in
set_option maxHeartbeats 8000000 in
theorem sX_vtwoj (a : Sc) (ha : Sc.ok a) (b : Sc) (hb : Sc.ok b)   : (∀ w, Calls Try.prog 95 #[.agg #[.int .u64 a.ul, .int .u64 a.uh, .int .i64 a.sl, .int .i64 a.sh, .int .u64 a.v, .int .u64 a.m], .agg #[.int .u64 b.ul, .int .u64 b.uh, .int .i64 b.sl, .int .i64 b.sh, .int .u64 b.v, .int .u64 b.m], .func (.func 28) #[] #[], .func (.func 96) #[] #[]] w fun e w' => e = .returned (.agg #[.int .u64 (vjoin a b).ul, .int .u64 (vjoin a b).uh, .int .i64 (vjoin a b).sl, .int .i64 (vjoin a b).sh, .int .u64 (vjoin a b).v, .int .u64 (vjoin a b).m]) ∧ Ext w w') ∧ valIn (.agg #[.int .u64 (vjoin a b).ul, .int .u64 (vjoin a b).uh, .int .i64 (vjoin a b).sl, .int .i64 (vjoin a b).sh, .int .u64 (vjoin a b).v, .int .u64 (vjoin a b).m]) = true := by
  refine fun_calls (cx := ⟨tys_VaB, [sM_vmay 0, sM_vall 1, sM_vnard 2, sM_join 3, sM_kjoin 4]⟩) (sp := sP_vtwoj) (t := sT_vtwoj) (by kernel_rfl) tysok_VaB (List.forall_mem_cons.2 ⟨sK_vmay rfl rfl, List.forall_mem_cons.2 ⟨sK_vall rfl rfl, List.forall_mem_cons.2 ⟨sK_vnard rfl rfl, List.forall_mem_cons.2 ⟨sK_join rfl rfl, List.forall_mem_cons.2 ⟨sK_kjoin rfl rfl, fun _ h => (by cases h)⟩⟩⟩⟩⟩) (keys_of (by kernel_rfl)) Try.func95 ⟨fun n => ([a.ul, a.uh, a.sl, a.sh, a.v, a.m, b.ul, b.uh, b.sl, b.sh, b.v, b.m] : List Int).getD n 0, fun n => ([false, false, false, false, false, false, false, false, false, false, false, false] : List Bool).getD n false⟩ sR_vtwoj (by kernel_rfl) ?_ rfl (by intro p hp; cases hp) ?_ ?_
  · intro n k hk
    have hlt : n < 12 := by
      rcases Nat.lt_or_ge n 12 with h | h
      · exact h
      · rw [List.getElem?_eq_none h] at hk; cases hk
    rcases (show n = 0 ∨ n = 1 ∨ n = 2 ∨ n = 3 ∨ n = 4 ∨ n = 5 ∨ n = 6 ∨ n = 7 ∨ n = 8 ∨ n = 9 ∨ n = 10 ∨ n = 11 by omega) with rfl | rfl | rfl | rfl | rfl | rfl | rfl | rfl | rfl | rfl | rfl | rfl
    · cases hk; exact ha.1
    · cases hk; exact ha.2.1
    · cases hk; exact ha.2.2.1
    · cases hk; exact ha.2.2.2.1
    · cases hk; exact ha.2.2.2.2.1
    · cases hk; exact ha.2.2.2.2.2
    · cases hk; exact hb.1
    · cases hk; exact hb.2.1
    · cases hk; exact hb.2.2.1
    · cases hk; exact hb.2.2.2.1
    · cases hk; exact hb.2.2.2.2.1
    · cases hk; exact hb.2.2.2.2.2
  · intro ρ hag
    have g0 : ρ.i 0 = a.ul := (hag 0 (by decide)).1.symm
    have g1 : ρ.i 1 = a.uh := (hag 1 (by decide)).1.symm
    have g2 : ρ.i 2 = a.sl := (hag 2 (by decide)).1.symm
    have g3 : ρ.i 3 = a.sh := (hag 3 (by decide)).1.symm
    have g4 : ρ.i 4 = a.v := (hag 4 (by decide)).1.symm
    have g5 : ρ.i 5 = a.m := (hag 5 (by decide)).1.symm
    have g6 : ρ.i 6 = b.ul := (hag 6 (by decide)).1.symm
    have g7 : ρ.i 7 = b.uh := (hag 7 (by decide)).1.symm
    have g8 : ρ.i 8 = b.sl := (hag 8 (by decide)).1.symm
    have g9 : ρ.i 9 = b.sh := (hag 9 (by decide)).1.symm
    have g10 : ρ.i 10 = b.v := (hag 10 (by decide)).1.symm
    have g11 : ρ.i 11 = b.m := (hag 11 (by decide)).1.symm
    show some ([.agg #[.int .u64 (ρ.i 0), .int .u64 (ρ.i 1), .int .i64 (ρ.i 2), .int .i64 (ρ.i 3), .int .u64 (ρ.i 4), .int .u64 (ρ.i 5)], .agg #[.int .u64 (ρ.i 6), .int .u64 (ρ.i 7), .int .i64 (ρ.i 8), .int .i64 (ρ.i 9), .int .u64 (ρ.i 10), .int .u64 (ρ.i 11)], .func (.func 28) #[] #[], .func (.func 96) #[] #[]] : List Value) = _
    rw [g0, g1, g2, g3, g4, g5, g6, g7, g8, g9, g10, g11]
  · intro ρ hag
    have g0 : ρ.i 0 = a.ul := (hag 0 (by decide)).1.symm
    have g1 : ρ.i 1 = a.uh := (hag 1 (by decide)).1.symm
    have g2 : ρ.i 2 = a.sl := (hag 2 (by decide)).1.symm
    have g3 : ρ.i 3 = a.sh := (hag 3 (by decide)).1.symm
    have g4 : ρ.i 4 = a.v := (hag 4 (by decide)).1.symm
    have g5 : ρ.i 5 = a.m := (hag 5 (by decide)).1.symm
    have g6 : ρ.i 6 = b.ul := (hag 6 (by decide)).1.symm
    have g7 : ρ.i 7 = b.uh := (hag 7 (by decide)).1.symm
    have g8 : ρ.i 8 = b.sl := (hag 8 (by decide)).1.symm
    have g9 : ρ.i 9 = b.sh := (hag 9 (by decide)).1.symm
    have g10 : ρ.i 10 = b.v := (hag 10 (by decide)).1.symm
    have g11 : ρ.i 11 = b.m := (hag 11 (by decide)).1.symm
    simp only [sT_vtwoj, Tr.asks, eqs, E.I, E.B, E.L, V.den, C.den, denL, den0, den0L, Option.map_some, Nat.add_zero, Nat.reduceAdd, and_true, Sc.eta, Sc.eta_r, Sc.eta_k, Sc.eta_2, g0, g1, g2, g3, g4, g5, g6, g7, g8, g9, g10, g11]
    simp only [sP_vtwoj, b01, Kn.eta, Pi.eta, Pu.eta, Rg.eta, Sc.eta, Sc.eta_r, Sc.eta_k, Sc.eta_2, sI_vmay, sB_vmay, sI_vall, sB_vall, sI_vnard, sB_vnard, sI_join, sB_join, sI_kjoin, sB_kjoin]
    intro e12
    (try simp only [e12, Kn.eta, Pi.eta, Pu.eta, Rg.eta, Sc.eta, Sc.eta_r, Sc.eta_k, Sc.eta_2])
    (try clear e12)
    refine ⟨fun c0 => ?_, fun c0 => ?_⟩
    · skip
      intro e13
      (try simp only [e13, Kn.eta, Pi.eta, Pu.eta, Rg.eta, Sc.eta, Sc.eta_r, Sc.eta_k, Sc.eta_2])
      (try clear e13)
      refine ⟨fun c1 => ?_, fun c1 => ?_⟩
      · skip
        rintro ⟨e14, e15, e16, e17⟩
        (try simp only [e14, e15, e16, e17, Kn.eta, Pi.eta, Pu.eta, Rg.eta, Sc.eta, Sc.eta_r, Sc.eta_k, Sc.eta_2])
        (try clear e14 e15 e16 e17)
        rintro ⟨e18, e19⟩
        (try simp only [e18, e19, Kn.eta, Pi.eta, Pu.eta, Rg.eta, Sc.eta, Sc.eta_r, Sc.eta_k, Sc.eta_2])
        (try clear e18 e19)
        rintro ⟨e20, e21, e22, e23, e24, e25⟩
        (try simp only [e20, e21, e22, e23, e24, e25, Kn.eta, Pi.eta, Pu.eta, Rg.eta, Sc.eta, Sc.eta_r, Sc.eta_k, Sc.eta_2])
        (try clear e20 e21 e22 e23 e24 e25)
        all_goals
          refine congrArg some ?_
          (rw [show vjoin a b = vnar (sc (bjoin a.r b.r) (kjoin a.k b.k)) from if_pos ⟨c0, c1⟩]; try rfl)
      · skip
        rintro ⟨e14, e15, e16, e17, e18, e19⟩
        (try simp only [e14, e15, e16, e17, e18, e19, Kn.eta, Pi.eta, Pu.eta, Rg.eta, Sc.eta, Sc.eta_r, Sc.eta_k, Sc.eta_2])
        (try clear e14 e15 e16 e17 e18 e19)
        all_goals
          refine congrArg some ?_
          (rw [show vjoin a b = vall from if_neg (fun q => by simp_all)]; try rfl)
    · skip
      rintro ⟨e13, e14, e15, e16, e17, e18⟩
      (try simp only [e13, e14, e15, e16, e17, e18, Kn.eta, Pi.eta, Pu.eta, Rg.eta, Sc.eta, Sc.eta_r, Sc.eta_k, Sc.eta_2])
      (try clear e13 e14 e15 e16 e17 e18)
      all_goals
        refine congrArg some ?_
        (rw [show vjoin a b = vall from if_neg (fun q => by simp_all)]; try rfl)
def sM_vtwoj (key : Nat) : Sm := ⟨95, key, [(true, [.int .u64, .int .u64, .int .i64, .int .i64, .int .u64, .int .u64]), (true, [.int .u64, .int .u64, .int .i64, .int .i64, .int .u64, .int .u64]), (false, [.fn 28]), (false, [.fn 96])], [(true, [.int .u64, .int .u64, .int .i64, .int .i64, .int .u64, .int .u64])], false⟩
def sI_vtwoj : Nat → List Int → Int
  | 0, [x0, x1, x2, x3, x4, x5, x6, x7, x8, x9, x10, x11] => (fun (a : Sc) (b : Sc) => (vjoin a b).ul) ⟨x0, x1, x2, x3, x4, x5⟩ ⟨x6, x7, x8, x9, x10, x11⟩
  | 1, [x0, x1, x2, x3, x4, x5, x6, x7, x8, x9, x10, x11] => (fun (a : Sc) (b : Sc) => (vjoin a b).uh) ⟨x0, x1, x2, x3, x4, x5⟩ ⟨x6, x7, x8, x9, x10, x11⟩
  | 2, [x0, x1, x2, x3, x4, x5, x6, x7, x8, x9, x10, x11] => (fun (a : Sc) (b : Sc) => (vjoin a b).sl) ⟨x0, x1, x2, x3, x4, x5⟩ ⟨x6, x7, x8, x9, x10, x11⟩
  | 3, [x0, x1, x2, x3, x4, x5, x6, x7, x8, x9, x10, x11] => (fun (a : Sc) (b : Sc) => (vjoin a b).sh) ⟨x0, x1, x2, x3, x4, x5⟩ ⟨x6, x7, x8, x9, x10, x11⟩
  | 4, [x0, x1, x2, x3, x4, x5, x6, x7, x8, x9, x10, x11] => (fun (a : Sc) (b : Sc) => (vjoin a b).v) ⟨x0, x1, x2, x3, x4, x5⟩ ⟨x6, x7, x8, x9, x10, x11⟩
  | 5, [x0, x1, x2, x3, x4, x5, x6, x7, x8, x9, x10, x11] => (fun (a : Sc) (b : Sc) => (vjoin a b).m) ⟨x0, x1, x2, x3, x4, x5⟩ ⟨x6, x7, x8, x9, x10, x11⟩
  | _, _ => 0
def sB_vtwoj : Nat → List Int → Bool
  | _, _ => false
theorem sK_vtwoj {sp : Spec} {key : Nat} (hI : sp.I key = sI_vtwoj) (hB : sp.B key = sB_vtwoj) : SmOk Try.prog sp (sM_vtwoj key) := by
  refine SmOk.of (.inl ⟨run_enter Try.func95 (by kernel_rfl) (by kernel_rfl), fun xs vals h => ?_⟩) (.inr (.inl ⟨_, rfl⟩))
  obtain ⟨_, _, _, p1, h1, rfl⟩ := shA h
  obtain ⟨_, _, _, d1_0, p1_0, rfl⟩ := cksC p1
  obtain ⟨x0, rfl, rfl, gx0⟩ := ckI d1_0
  obtain ⟨_, _, _, d1_1, p1_1, rfl⟩ := cksC p1_0
  obtain ⟨x1, rfl, rfl, gx1⟩ := ckI d1_1
  obtain ⟨_, _, _, d1_2, p1_2, rfl⟩ := cksC p1_1
  obtain ⟨x2, rfl, rfl, gx2⟩ := ckI d1_2
  obtain ⟨_, _, _, d1_3, p1_3, rfl⟩ := cksC p1_2
  obtain ⟨x3, rfl, rfl, gx3⟩ := ckI d1_3
  obtain ⟨_, _, _, d1_4, p1_4, rfl⟩ := cksC p1_3
  obtain ⟨x4, rfl, rfl, gx4⟩ := ckI d1_4
  obtain ⟨_, _, _, d1_5, p1_5, rfl⟩ := cksC p1_4
  obtain ⟨x5, rfl, rfl, gx5⟩ := ckI d1_5
  obtain ⟨rfl, rfl⟩ := cksN p1_5
  obtain ⟨_, _, _, p2, h2, rfl⟩ := shA h1
  obtain ⟨_, _, _, d2_0, p2_0, rfl⟩ := cksC p2
  obtain ⟨x6, rfl, rfl, gx6⟩ := ckI d2_0
  obtain ⟨_, _, _, d2_1, p2_1, rfl⟩ := cksC p2_0
  obtain ⟨x7, rfl, rfl, gx7⟩ := ckI d2_1
  obtain ⟨_, _, _, d2_2, p2_2, rfl⟩ := cksC p2_1
  obtain ⟨x8, rfl, rfl, gx8⟩ := ckI d2_2
  obtain ⟨_, _, _, d2_3, p2_3, rfl⟩ := cksC p2_2
  obtain ⟨x9, rfl, rfl, gx9⟩ := ckI d2_3
  obtain ⟨_, _, _, d2_4, p2_4, rfl⟩ := cksC p2_3
  obtain ⟨x10, rfl, rfl, gx10⟩ := ckI d2_4
  obtain ⟨_, _, _, d2_5, p2_5, rfl⟩ := cksC p2_4
  obtain ⟨x11, rfl, rfl, gx11⟩ := ckI d2_5
  obtain ⟨rfl, rfl⟩ := cksN p2_5
  obtain ⟨_, _, _, d3, h3, rfl⟩ := shO h2
  obtain ⟨rfl, rfl⟩ := ckF d3
  obtain ⟨_, _, _, d4, h4, rfl⟩ := shO h3
  obtain ⟨rfl, rfl⟩ := ckF d4
  obtain ⟨rfl, rfl⟩ := shN h4
  refine ⟨_, sX_vtwoj ⟨x0, x1, x2, x3, x4, x5⟩ ⟨gx0, gx1, gx2, gx3, gx4, gx5⟩ ⟨x6, x7, x8, x9, x10, x11⟩ ⟨gx6, gx7, gx8, gx9, gx10, gx11⟩, fun ρ v0 he => ?_⟩
  have he' : ρ.i (v0 + 0) = sp.I key 0 [x0, x1, x2, x3, x4, x5, x6, x7, x8, x9, x10, x11] ∧ ρ.i (v0 + 1) = sp.I key 1 [x0, x1, x2, x3, x4, x5, x6, x7, x8, x9, x10, x11] ∧ ρ.i (v0 + 2) = sp.I key 2 [x0, x1, x2, x3, x4, x5, x6, x7, x8, x9, x10, x11] ∧ ρ.i (v0 + 3) = sp.I key 3 [x0, x1, x2, x3, x4, x5, x6, x7, x8, x9, x10, x11] ∧ ρ.i (v0 + 4) = sp.I key 4 [x0, x1, x2, x3, x4, x5, x6, x7, x8, x9, x10, x11] ∧ ρ.i (v0 + 5) = sp.I key 5 [x0, x1, x2, x3, x4, x5, x6, x7, x8, x9, x10, x11] ∧ True := he
  simp only [hI, hB] at he'
  obtain ⟨e0, e1, e2, e3, e4, e5, -⟩ := he'
  show some (.agg #[.int .u64 (ρ.i (v0 + 0)), .int .u64 (ρ.i (v0 + 1)), .int .i64 (ρ.i (v0 + 2)), .int .i64 (ρ.i (v0 + 3)), .int .u64 (ρ.i (v0 + 4)), .int .u64 (ρ.i (v0 + 5))] : Value) = _
  rw [e0, e1, e2, e3, e4, e5]
  rfl
def sT_vjoin : Tr :=
(.call 0 [.int .u64, .int .u64, .int .i64, .int .i64, .int .u64, .int .u64] (.cons (.var 0) (.cons (.var 1) (.cons (.var 2) (.cons (.var 3) (.cons (.var 4) (.cons (.var 5) (.cons (.var 6) (.cons (.var 7) (.cons (.var 8) (.cons (.var 9) (.cons (.var 10) (.cons (.var 11) .nil)))))))))))) 12
 (.leaf (.agg [.int .u64 (.var 12), .int .u64 (.var 13), .int .i64 (.var 14), .int .i64 (.var 15), .int .u64 (.var 16), .int .u64 (.var 17)])))
def sP_vjoin : Spec := ⟨fun k => match k with | 0 => sI_vtwoj | _ => fun _ _ => 0, fun k => match k with | 0 => sB_vtwoj | _ => fun _ _ => false⟩
set_option maxRecDepth 100000 in
theorem sR_vjoin : funK ⟨tys_VaB, [sM_vtwoj 0]⟩ 200 Try.f46 [.agg [.int .u64 (.var 0), .int .u64 (.var 1), .int .i64 (.var 2), .int .i64 (.var 3), .int .u64 (.var 4), .int .u64 (.var 5)], .agg [.int .u64 (.var 6), .int .u64 (.var 7), .int .i64 (.var 8), .int .i64 (.var 9), .int .u64 (.var 10), .int .u64 (.var 11)]] ⟨[], [], [some .u64, some .u64, some .i64, some .i64, some .u64, some .u64, some .u64, some .u64, some .i64, some .i64, some .u64, some .u64]⟩ = sT_vjoin := by kernel_rfl
set_option maxRecDepth 100000 in
set_option maxHeartbeats 8000000 in
theorem sX_vjoin (a : Sc) (ha : Sc.ok a) (b : Sc) (hb : Sc.ok b) : (∀ w, Calls Try.prog 46 #[.agg #[.int .u64 a.ul, .int .u64 a.uh, .int .i64 a.sl, .int .i64 a.sh, .int .u64 a.v, .int .u64 a.m], .agg #[.int .u64 b.ul, .int .u64 b.uh, .int .i64 b.sl, .int .i64 b.sh, .int .u64 b.v, .int .u64 b.m]] w fun e w' => e = .returned (.agg #[.int .u64 (vjoin a b).ul, .int .u64 (vjoin a b).uh, .int .i64 (vjoin a b).sl, .int .i64 (vjoin a b).sh, .int .u64 (vjoin a b).v, .int .u64 (vjoin a b).m]) ∧ Ext w w') ∧ valIn (.agg #[.int .u64 (vjoin a b).ul, .int .u64 (vjoin a b).uh, .int .i64 (vjoin a b).sl, .int .i64 (vjoin a b).sh, .int .u64 (vjoin a b).v, .int .u64 (vjoin a b).m]) = true := by
  refine fun_calls (cx := ⟨tys_VaB, [sM_vtwoj 0]⟩) (sp := sP_vjoin) (t := sT_vjoin) (by kernel_rfl) tysok_VaB (List.forall_mem_cons.2 ⟨sK_vtwoj rfl rfl, fun _ h => (by cases h)⟩) (keys_of (by kernel_rfl)) Try.func46 ⟨fun n => ([a.ul, a.uh, a.sl, a.sh, a.v, a.m, b.ul, b.uh, b.sl, b.sh, b.v, b.m] : List Int).getD n 0, fun n => ([false, false, false, false, false, false, false, false, false, false, false, false] : List Bool).getD n false⟩ sR_vjoin (by kernel_rfl) ?_ rfl (by intro p hp; cases hp) ?_ ?_
  · intro n k hk
    have hlt : n < 12 := by
      rcases Nat.lt_or_ge n 12 with h | h
      · exact h
      · rw [List.getElem?_eq_none h] at hk; cases hk
    rcases (show n = 0 ∨ n = 1 ∨ n = 2 ∨ n = 3 ∨ n = 4 ∨ n = 5 ∨ n = 6 ∨ n = 7 ∨ n = 8 ∨ n = 9 ∨ n = 10 ∨ n = 11 by omega) with rfl | rfl | rfl | rfl | rfl | rfl | rfl | rfl | rfl | rfl | rfl | rfl
    · cases hk; exact ha.1
    · cases hk; exact ha.2.1
    · cases hk; exact ha.2.2.1
    · cases hk; exact ha.2.2.2.1
    · cases hk; exact ha.2.2.2.2.1
    · cases hk; exact ha.2.2.2.2.2
    · cases hk; exact hb.1
    · cases hk; exact hb.2.1
    · cases hk; exact hb.2.2.1
    · cases hk; exact hb.2.2.2.1
    · cases hk; exact hb.2.2.2.2.1
    · cases hk; exact hb.2.2.2.2.2
  · intro ρ hag
    have g0 : ρ.i 0 = a.ul := (hag 0 (by decide)).1.symm
    have g1 : ρ.i 1 = a.uh := (hag 1 (by decide)).1.symm
    have g2 : ρ.i 2 = a.sl := (hag 2 (by decide)).1.symm
    have g3 : ρ.i 3 = a.sh := (hag 3 (by decide)).1.symm
    have g4 : ρ.i 4 = a.v := (hag 4 (by decide)).1.symm
    have g5 : ρ.i 5 = a.m := (hag 5 (by decide)).1.symm
    have g6 : ρ.i 6 = b.ul := (hag 6 (by decide)).1.symm
    have g7 : ρ.i 7 = b.uh := (hag 7 (by decide)).1.symm
    have g8 : ρ.i 8 = b.sl := (hag 8 (by decide)).1.symm
    have g9 : ρ.i 9 = b.sh := (hag 9 (by decide)).1.symm
    have g10 : ρ.i 10 = b.v := (hag 10 (by decide)).1.symm
    have g11 : ρ.i 11 = b.m := (hag 11 (by decide)).1.symm
    show some ([.agg #[.int .u64 (ρ.i 0), .int .u64 (ρ.i 1), .int .i64 (ρ.i 2), .int .i64 (ρ.i 3), .int .u64 (ρ.i 4), .int .u64 (ρ.i 5)], .agg #[.int .u64 (ρ.i 6), .int .u64 (ρ.i 7), .int .i64 (ρ.i 8), .int .i64 (ρ.i 9), .int .u64 (ρ.i 10), .int .u64 (ρ.i 11)]] : List Value) = _
    rw [g0, g1, g2, g3, g4, g5, g6, g7, g8, g9, g10, g11]
  · intro ρ hag
    have g0 : ρ.i 0 = a.ul := (hag 0 (by decide)).1.symm
    have g1 : ρ.i 1 = a.uh := (hag 1 (by decide)).1.symm
    have g2 : ρ.i 2 = a.sl := (hag 2 (by decide)).1.symm
    have g3 : ρ.i 3 = a.sh := (hag 3 (by decide)).1.symm
    have g4 : ρ.i 4 = a.v := (hag 4 (by decide)).1.symm
    have g5 : ρ.i 5 = a.m := (hag 5 (by decide)).1.symm
    have g6 : ρ.i 6 = b.ul := (hag 6 (by decide)).1.symm
    have g7 : ρ.i 7 = b.uh := (hag 7 (by decide)).1.symm
    have g8 : ρ.i 8 = b.sl := (hag 8 (by decide)).1.symm
    have g9 : ρ.i 9 = b.sh := (hag 9 (by decide)).1.symm
    have g10 : ρ.i 10 = b.v := (hag 10 (by decide)).1.symm
    have g11 : ρ.i 11 = b.m := (hag 11 (by decide)).1.symm
    simp only [sT_vjoin, Tr.asks, eqs, E.I, E.B, E.L, V.den, C.den, denL, den0, den0L, Option.map_some, Nat.add_zero, Nat.reduceAdd, and_true, Sc.eta, Sc.eta_r, Sc.eta_k, Sc.eta_2, g0, g1, g2, g3, g4, g5, g6, g7, g8, g9, g10, g11]
    simp only [sP_vjoin, b01, Kn.eta, Pi.eta, Pu.eta, Rg.eta, Sc.eta, Sc.eta_r, Sc.eta_k, Sc.eta_2, sI_vtwoj, sB_vtwoj]
    rintro ⟨e12, e13, e14, e15, e16, e17⟩
    (try simp only [e12, e13, e14, e15, e16, e17, Kn.eta, Pi.eta, Pu.eta, Rg.eta, Sc.eta, Sc.eta_r, Sc.eta_k, Sc.eta_2])
    (try clear e12 e13 e14 e15 e16 e17)
    all_goals
      refine congrArg some ?_
      rfl
def sM_vjoin (key : Nat) : Sm := ⟨46, key, [(true, [.int .u64, .int .u64, .int .i64, .int .i64, .int .u64, .int .u64]), (true, [.int .u64, .int .u64, .int .i64, .int .i64, .int .u64, .int .u64])], [(true, [.int .u64, .int .u64, .int .i64, .int .i64, .int .u64, .int .u64])], false⟩
def sI_vjoin : Nat → List Int → Int
  | 0, [x0, x1, x2, x3, x4, x5, x6, x7, x8, x9, x10, x11] => (fun (a : Sc) (b : Sc) => (vjoin a b).ul) ⟨x0, x1, x2, x3, x4, x5⟩ ⟨x6, x7, x8, x9, x10, x11⟩
  | 1, [x0, x1, x2, x3, x4, x5, x6, x7, x8, x9, x10, x11] => (fun (a : Sc) (b : Sc) => (vjoin a b).uh) ⟨x0, x1, x2, x3, x4, x5⟩ ⟨x6, x7, x8, x9, x10, x11⟩
  | 2, [x0, x1, x2, x3, x4, x5, x6, x7, x8, x9, x10, x11] => (fun (a : Sc) (b : Sc) => (vjoin a b).sl) ⟨x0, x1, x2, x3, x4, x5⟩ ⟨x6, x7, x8, x9, x10, x11⟩
  | 3, [x0, x1, x2, x3, x4, x5, x6, x7, x8, x9, x10, x11] => (fun (a : Sc) (b : Sc) => (vjoin a b).sh) ⟨x0, x1, x2, x3, x4, x5⟩ ⟨x6, x7, x8, x9, x10, x11⟩
  | 4, [x0, x1, x2, x3, x4, x5, x6, x7, x8, x9, x10, x11] => (fun (a : Sc) (b : Sc) => (vjoin a b).v) ⟨x0, x1, x2, x3, x4, x5⟩ ⟨x6, x7, x8, x9, x10, x11⟩
  | 5, [x0, x1, x2, x3, x4, x5, x6, x7, x8, x9, x10, x11] => (fun (a : Sc) (b : Sc) => (vjoin a b).m) ⟨x0, x1, x2, x3, x4, x5⟩ ⟨x6, x7, x8, x9, x10, x11⟩
  | _, _ => 0
def sB_vjoin : Nat → List Int → Bool
  | _, _ => false
theorem sK_vjoin {sp : Spec} {key : Nat} (hI : sp.I key = sI_vjoin) (hB : sp.B key = sB_vjoin) : SmOk Try.prog sp (sM_vjoin key) := by
  refine SmOk.of (.inl ⟨run_enter Try.func46 (by kernel_rfl) (by kernel_rfl), fun xs vals h => ?_⟩) (.inr (.inl ⟨_, rfl⟩))
  obtain ⟨_, _, _, p1, h1, rfl⟩ := shA h
  obtain ⟨_, _, _, d1_0, p1_0, rfl⟩ := cksC p1
  obtain ⟨x0, rfl, rfl, gx0⟩ := ckI d1_0
  obtain ⟨_, _, _, d1_1, p1_1, rfl⟩ := cksC p1_0
  obtain ⟨x1, rfl, rfl, gx1⟩ := ckI d1_1
  obtain ⟨_, _, _, d1_2, p1_2, rfl⟩ := cksC p1_1
  obtain ⟨x2, rfl, rfl, gx2⟩ := ckI d1_2
  obtain ⟨_, _, _, d1_3, p1_3, rfl⟩ := cksC p1_2
  obtain ⟨x3, rfl, rfl, gx3⟩ := ckI d1_3
  obtain ⟨_, _, _, d1_4, p1_4, rfl⟩ := cksC p1_3
  obtain ⟨x4, rfl, rfl, gx4⟩ := ckI d1_4
  obtain ⟨_, _, _, d1_5, p1_5, rfl⟩ := cksC p1_4
  obtain ⟨x5, rfl, rfl, gx5⟩ := ckI d1_5
  obtain ⟨rfl, rfl⟩ := cksN p1_5
  obtain ⟨_, _, _, p2, h2, rfl⟩ := shA h1
  obtain ⟨_, _, _, d2_0, p2_0, rfl⟩ := cksC p2
  obtain ⟨x6, rfl, rfl, gx6⟩ := ckI d2_0
  obtain ⟨_, _, _, d2_1, p2_1, rfl⟩ := cksC p2_0
  obtain ⟨x7, rfl, rfl, gx7⟩ := ckI d2_1
  obtain ⟨_, _, _, d2_2, p2_2, rfl⟩ := cksC p2_1
  obtain ⟨x8, rfl, rfl, gx8⟩ := ckI d2_2
  obtain ⟨_, _, _, d2_3, p2_3, rfl⟩ := cksC p2_2
  obtain ⟨x9, rfl, rfl, gx9⟩ := ckI d2_3
  obtain ⟨_, _, _, d2_4, p2_4, rfl⟩ := cksC p2_3
  obtain ⟨x10, rfl, rfl, gx10⟩ := ckI d2_4
  obtain ⟨_, _, _, d2_5, p2_5, rfl⟩ := cksC p2_4
  obtain ⟨x11, rfl, rfl, gx11⟩ := ckI d2_5
  obtain ⟨rfl, rfl⟩ := cksN p2_5
  obtain ⟨rfl, rfl⟩ := shN h2
  refine ⟨_, sX_vjoin ⟨x0, x1, x2, x3, x4, x5⟩ ⟨gx0, gx1, gx2, gx3, gx4, gx5⟩ ⟨x6, x7, x8, x9, x10, x11⟩ ⟨gx6, gx7, gx8, gx9, gx10, gx11⟩, fun ρ v0 he => ?_⟩
  have he' : ρ.i (v0 + 0) = sp.I key 0 [x0, x1, x2, x3, x4, x5, x6, x7, x8, x9, x10, x11] ∧ ρ.i (v0 + 1) = sp.I key 1 [x0, x1, x2, x3, x4, x5, x6, x7, x8, x9, x10, x11] ∧ ρ.i (v0 + 2) = sp.I key 2 [x0, x1, x2, x3, x4, x5, x6, x7, x8, x9, x10, x11] ∧ ρ.i (v0 + 3) = sp.I key 3 [x0, x1, x2, x3, x4, x5, x6, x7, x8, x9, x10, x11] ∧ ρ.i (v0 + 4) = sp.I key 4 [x0, x1, x2, x3, x4, x5, x6, x7, x8, x9, x10, x11] ∧ ρ.i (v0 + 5) = sp.I key 5 [x0, x1, x2, x3, x4, x5, x6, x7, x8, x9, x10, x11] ∧ True := he
  simp only [hI, hB] at he'
  obtain ⟨e0, e1, e2, e3, e4, e5, -⟩ := he'
  show some (.agg #[.int .u64 (ρ.i (v0 + 0)), .int .u64 (ρ.i (v0 + 1)), .int .i64 (ρ.i (v0 + 2)), .int .i64 (ρ.i (v0 + 3)), .int .u64 (ρ.i (v0 + 4)), .int .u64 (ρ.i (v0 + 5))] : Value) = _
  rw [e0, e1, e2, e3, e4, e5]
  rfl
def sT_vendu : Tr :=
(.br (.eq (.var 0) (.var 1))
 (.leaf (.one (.int .u64 (.var 0))))
 (.br (.bvar 3)
  (.leaf (.one (.int .u64 (.var 2))))
  (.leaf (.one (.int .u64 (.var 0))))))
def sP_vendu : Spec := ⟨fun k => match k with | _ => fun _ _ => 0, fun k => match k with | _ => fun _ _ => false⟩
set_option maxRecDepth 100000 in
theorem sR_vendu : funK ⟨tys_VaB, []⟩ 200 Try.f98 [.one (.int .u64 (.var 0)), .one (.int .u64 (.var 1)), .one (.int .u64 (.var 2)), .one (.bool (.bvar 3))] ⟨[], [], [some .u64, some .u64, some .u64, none]⟩ = sT_vendu := by kernel_rfl
set_option maxRecDepth 100000 in
set_option maxHeartbeats 8000000 in
theorem sX_vendu (a : Int) (ha : inK .u64 a = true) (b : Int) (hb : inK .u64 b = true) (c : Int) (hc : inK .u64 c = true) (t : Bool) : (∀ w, Calls Try.prog 98 #[.int .u64 a, .int .u64 b, .int .u64 c, .bool t] w fun e w' => e = .returned (.int .u64 (if (a == b) = false ∧ t = true then c else a)) ∧ Ext w w') ∧ valIn (.int .u64 (if (a == b) = false ∧ t = true then c else a)) = true := by
  refine fun_calls (cx := ⟨tys_VaB, []⟩) (sp := sP_vendu) (t := sT_vendu) (by kernel_rfl) tysok_VaB (fun _ h => (by cases h)) (keys_of (by kernel_rfl)) Try.func98 ⟨fun n => ([a, b, c, 0] : List Int).getD n 0, fun n => ([false, false, false, t] : List Bool).getD n false⟩ sR_vendu (by kernel_rfl) ?_ rfl (by intro p hp; cases hp) ?_ ?_
  · intro n k hk
    have hlt : n < 4 := by
      rcases Nat.lt_or_ge n 4 with h | h
      · exact h
      · rw [List.getElem?_eq_none h] at hk; cases hk
    rcases (show n = 0 ∨ n = 1 ∨ n = 2 ∨ n = 3 by omega) with rfl | rfl | rfl | rfl
    · cases hk; exact ha
    · cases hk; exact hb
    · cases hk; exact hc
    · cases hk
  · intro ρ hag
    have g0 : ρ.i 0 = a := (hag 0 (by decide)).1.symm
    have g1 : ρ.i 1 = b := (hag 1 (by decide)).1.symm
    have g2 : ρ.i 2 = c := (hag 2 (by decide)).1.symm
    have g3 : ρ.b 3 = t := (hag 3 (by decide)).2.symm
    show some ([.int .u64 (ρ.i 0), .int .u64 (ρ.i 1), .int .u64 (ρ.i 2), .bool (ρ.b 3)] : List Value) = _
    rw [g0, g1, g2, g3]
  · intro ρ hag
    have g0 : ρ.i 0 = a := (hag 0 (by decide)).1.symm
    have g1 : ρ.i 1 = b := (hag 1 (by decide)).1.symm
    have g2 : ρ.i 2 = c := (hag 2 (by decide)).1.symm
    have g3 : ρ.b 3 = t := (hag 3 (by decide)).2.symm
    simp only [sT_vendu, Tr.asks, eqs, E.I, E.B, E.L, V.den, C.den, denL, den0, den0L, Option.map_some, Nat.add_zero, Nat.reduceAdd, and_true, Sc.eta_r, Sc.eta_k, Sc.eta_2, g0, g1, g2, g3]
    refine ⟨fun c0 => ?_, fun c0 => ?_⟩
    · skip
      all_goals
        refine congrArg some ?_
        (simp_all)
    · skip
      refine ⟨fun c1 => ?_, fun c1 => ?_⟩
      · skip
        all_goals
          refine congrArg some ?_
          (simp_all)
      · skip
        all_goals
          refine congrArg some ?_
          (simp_all)
def sM_vendu (key : Nat) : Sm := ⟨98, key, [(false, [.int .u64]), (false, [.int .u64]), (false, [.int .u64]), (false, [.bool])], [(false, [.int .u64])], false⟩
def sI_vendu : Nat → List Int → Int
  | 0, [x0, x1, x2, x3] => (fun (a : Int) (b : Int) (c : Int) (t : Bool) => if (a == b) = false ∧ t = true then c else a) x0 x1 x2 (x3 == 1)
  | _, _ => 0
def sB_vendu : Nat → List Int → Bool
  | _, _ => false
theorem sK_vendu {sp : Spec} {key : Nat} (hI : sp.I key = sI_vendu) (hB : sp.B key = sB_vendu) : SmOk Try.prog sp (sM_vendu key) := by
  refine SmOk.of (.inl ⟨run_enter Try.func98 (by kernel_rfl) (by kernel_rfl), fun xs vals h => ?_⟩) (.inr (.inr ⟨_, rfl⟩))
  obtain ⟨_, _, _, d1, h1, rfl⟩ := shO h
  obtain ⟨x0, rfl, rfl, gx0⟩ := ckI d1
  obtain ⟨_, _, _, d2, h2, rfl⟩ := shO h1
  obtain ⟨x1, rfl, rfl, gx1⟩ := ckI d2
  obtain ⟨_, _, _, d3, h3, rfl⟩ := shO h2
  obtain ⟨x2, rfl, rfl, gx2⟩ := ckI d3
  obtain ⟨_, _, _, d4, h4, rfl⟩ := shO h3
  obtain ⟨x3, rfl, rfl⟩ := ckB d4
  obtain ⟨rfl, rfl⟩ := shN h4
  refine ⟨_, sX_vendu x0 gx0 x1 gx1 x2 gx2 (x3 == 1), fun ρ v0 he => ?_⟩
  have he' : ρ.i (v0 + 0) = sp.I key 0 [x0, x1, x2, x3] ∧ True := he
  simp only [hI, hB] at he'
  obtain ⟨e0, -⟩ := he'
  show some (.int .u64 (ρ.i (v0 + 0)) : Value) = _
  rw [e0]
  rfl
def sT_vendi : Tr :=
(.br (.eq (.var 0) (.var 1))
 (.leaf (.one (.int .i64 (.var 0))))
 (.br (.bvar 3)
  (.leaf (.one (.int .i64 (.var 2))))
  (.leaf (.one (.int .i64 (.var 0))))))
def sP_vendi : Spec := ⟨fun k => match k with | _ => fun _ _ => 0, fun k => match k with | _ => fun _ _ => false⟩
set_option maxRecDepth 100000 in
theorem sR_vendi : funK ⟨tys_VaB, []⟩ 200 Try.f99 [.one (.int .i64 (.var 0)), .one (.int .i64 (.var 1)), .one (.int .i64 (.var 2)), .one (.bool (.bvar 3))] ⟨[], [], [some .i64, some .i64, some .i64, none]⟩ = sT_vendi := by kernel_rfl
set_option maxRecDepth 100000 in
set_option maxHeartbeats 8000000 in
theorem sX_vendi (a : Int) (ha : inK .i64 a = true) (b : Int) (hb : inK .i64 b = true) (c : Int) (hc : inK .i64 c = true) (t : Bool) : (∀ w, Calls Try.prog 99 #[.int .i64 a, .int .i64 b, .int .i64 c, .bool t] w fun e w' => e = .returned (.int .i64 (if (a == b) = false ∧ t = true then c else a)) ∧ Ext w w') ∧ valIn (.int .i64 (if (a == b) = false ∧ t = true then c else a)) = true := by
  refine fun_calls (cx := ⟨tys_VaB, []⟩) (sp := sP_vendi) (t := sT_vendi) (by kernel_rfl) tysok_VaB (fun _ h => (by cases h)) (keys_of (by kernel_rfl)) Try.func99 ⟨fun n => ([a, b, c, 0] : List Int).getD n 0, fun n => ([false, false, false, t] : List Bool).getD n false⟩ sR_vendi (by kernel_rfl) ?_ rfl (by intro p hp; cases hp) ?_ ?_
  · intro n k hk
    have hlt : n < 4 := by
      rcases Nat.lt_or_ge n 4 with h | h
      · exact h
      · rw [List.getElem?_eq_none h] at hk; cases hk
    rcases (show n = 0 ∨ n = 1 ∨ n = 2 ∨ n = 3 by omega) with rfl | rfl | rfl | rfl
    · cases hk; exact ha
    · cases hk; exact hb
    · cases hk; exact hc
    · cases hk
  · intro ρ hag
    have g0 : ρ.i 0 = a := (hag 0 (by decide)).1.symm
    have g1 : ρ.i 1 = b := (hag 1 (by decide)).1.symm
    have g2 : ρ.i 2 = c := (hag 2 (by decide)).1.symm
    have g3 : ρ.b 3 = t := (hag 3 (by decide)).2.symm
    show some ([.int .i64 (ρ.i 0), .int .i64 (ρ.i 1), .int .i64 (ρ.i 2), .bool (ρ.b 3)] : List Value) = _
    rw [g0, g1, g2, g3]
  · intro ρ hag
    have g0 : ρ.i 0 = a := (hag 0 (by decide)).1.symm
    have g1 : ρ.i 1 = b := (hag 1 (by decide)).1.symm
    have g2 : ρ.i 2 = c := (hag 2 (by decide)).1.symm
    have g3 : ρ.b 3 = t := (hag 3 (by decide)).2.symm
    simp only [sT_vendi, Tr.asks, eqs, E.I, E.B, E.L, V.den, C.den, denL, den0, den0L, Option.map_some, Nat.add_zero, Nat.reduceAdd, and_true, Sc.eta_r, Sc.eta_k, Sc.eta_2, g0, g1, g2, g3]
    refine ⟨fun c0 => ?_, fun c0 => ?_⟩
    · skip
      all_goals
        refine congrArg some ?_
        (simp_all)
    · skip
      refine ⟨fun c1 => ?_, fun c1 => ?_⟩
      · skip
        all_goals
          refine congrArg some ?_
          (simp_all)
      · skip
        all_goals
          refine congrArg some ?_
          (simp_all)
def sM_vendi (key : Nat) : Sm := ⟨99, key, [(false, [.int .i64]), (false, [.int .i64]), (false, [.int .i64]), (false, [.bool])], [(false, [.int .i64])], false⟩
def sI_vendi : Nat → List Int → Int
  | 0, [x0, x1, x2, x3] => (fun (a : Int) (b : Int) (c : Int) (t : Bool) => if (a == b) = false ∧ t = true then c else a) x0 x1 x2 (x3 == 1)
  | _, _ => 0
def sB_vendi : Nat → List Int → Bool
  | _, _ => false
theorem sK_vendi {sp : Spec} {key : Nat} (hI : sp.I key = sI_vendi) (hB : sp.B key = sB_vendi) : SmOk Try.prog sp (sM_vendi key) := by
  refine SmOk.of (.inl ⟨run_enter Try.func99 (by kernel_rfl) (by kernel_rfl), fun xs vals h => ?_⟩) (.inr (.inr ⟨_, rfl⟩))
  obtain ⟨_, _, _, d1, h1, rfl⟩ := shO h
  obtain ⟨x0, rfl, rfl, gx0⟩ := ckI d1
  obtain ⟨_, _, _, d2, h2, rfl⟩ := shO h1
  obtain ⟨x1, rfl, rfl, gx1⟩ := ckI d2
  obtain ⟨_, _, _, d3, h3, rfl⟩ := shO h2
  obtain ⟨x2, rfl, rfl, gx2⟩ := ckI d3
  obtain ⟨_, _, _, d4, h4, rfl⟩ := shO h3
  obtain ⟨x3, rfl, rfl⟩ := ckB d4
  obtain ⟨rfl, rfl⟩ := shN h4
  refine ⟨_, sX_vendi x0 gx0 x1 gx1 x2 gx2 (x3 == 1), fun ρ v0 he => ?_⟩
  have he' : ρ.i (v0 + 0) = sp.I key 0 [x0, x1, x2, x3] ∧ True := he
  simp only [hI, hB] at he'
  obtain ⟨e0, -⟩ := he'
  show some (.int .i64 (ρ.i (v0 + 0)) : Value) = _
  rw [e0]
  rfl
def sT_vwid0 : Tr :=
(.call 0 [.int .u64, .int .u64, .int .i64, .int .i64] .nil 8
 (.call 1 [.int .u64] (.cons (.var 0) (.cons (.var 4) (.cons (.var 8) (.consb (.lt (.var 4) (.var 0)) .nil)))) 12
 (.call 1 [.int .u64] (.cons (.var 1) (.cons (.var 5) (.cons (.var 9) (.consb (.lt (.var 1) (.var 5)) .nil)))) 13
 (.call 2 [.int .i64] (.cons (.var 2) (.cons (.var 6) (.cons (.var 10) (.consb (.lt (.var 6) (.var 2)) .nil)))) 14
 (.call 2 [.int .i64] (.cons (.var 3) (.cons (.var 7) (.cons (.var 11) (.consb (.lt (.var 3) (.var 7)) .nil)))) 15
 (.leaf (.agg [.int .u64 (.var 12), .int .u64 (.var 13), .int .i64 (.var 14), .int .i64 (.var 15)])))))))
def sP_vwid0 : Spec := ⟨fun k => match k with | 0 => sI_all | 1 => sI_vendu | 2 => sI_vendi | _ => fun _ _ => 0, fun k => match k with | 0 => sB_all | 1 => sB_vendu | 2 => sB_vendi | _ => fun _ _ => false⟩
set_option maxRecDepth 100000 in
theorem sR_vwid0 : funK ⟨tys_VaB, [sM_all 0, sM_vendu 1, sM_vendi 2]⟩ 200 Try.f97 [.agg [.int .u64 (.var 0), .int .u64 (.var 1), .int .i64 (.var 2), .int .i64 (.var 3)], .agg [.int .u64 (.var 4), .int .u64 (.var 5), .int .i64 (.var 6), .int .i64 (.var 7)]] ⟨[], [], [some .u64, some .u64, some .i64, some .i64, some .u64, some .u64, some .i64, some .i64]⟩ = sT_vwid0 := by kernel_rfl
set_option maxRecDepth 100000 in
set_option maxHeartbeats 8000000 in
theorem sX_vwid0 (a : Rg) (ha : Rg.ok a) (b : Rg) (hb : Rg.ok b) : (∀ w, Calls Try.prog 97 #[.agg #[.int .u64 a.ul, .int .u64 a.uh, .int .i64 a.sl, .int .i64 a.sh], .agg #[.int .u64 b.ul, .int .u64 b.uh, .int .i64 b.sl, .int .i64 b.sh]] w fun e w' => e = .returned (.agg #[.int .u64 (bwid a b).ul, .int .u64 (bwid a b).uh, .int .i64 (bwid a b).sl, .int .i64 (bwid a b).sh]) ∧ Ext w w') ∧ valIn (.agg #[.int .u64 (bwid a b).ul, .int .u64 (bwid a b).uh, .int .i64 (bwid a b).sl, .int .i64 (bwid a b).sh]) = true := by
  refine fun_calls (cx := ⟨tys_VaB, [sM_all 0, sM_vendu 1, sM_vendi 2]⟩) (sp := sP_vwid0) (t := sT_vwid0) (by kernel_rfl) tysok_VaB (List.forall_mem_cons.2 ⟨sK_all rfl rfl, List.forall_mem_cons.2 ⟨sK_vendu rfl rfl, List.forall_mem_cons.2 ⟨sK_vendi rfl rfl, fun _ h => (by cases h)⟩⟩⟩) (keys_of (by kernel_rfl)) Try.func97 ⟨fun n => ([a.ul, a.uh, a.sl, a.sh, b.ul, b.uh, b.sl, b.sh] : List Int).getD n 0, fun n => ([false, false, false, false, false, false, false, false] : List Bool).getD n false⟩ sR_vwid0 (by kernel_rfl) ?_ rfl (by intro p hp; cases hp) ?_ ?_
  · intro n k hk
    have hlt : n < 8 := by
      rcases Nat.lt_or_ge n 8 with h | h
      · exact h
      · rw [List.getElem?_eq_none h] at hk; cases hk
    rcases (show n = 0 ∨ n = 1 ∨ n = 2 ∨ n = 3 ∨ n = 4 ∨ n = 5 ∨ n = 6 ∨ n = 7 by omega) with rfl | rfl | rfl | rfl | rfl | rfl | rfl | rfl
    · cases hk; exact ha.1
    · cases hk; exact ha.2.1
    · cases hk; exact ha.2.2.1
    · cases hk; exact ha.2.2.2
    · cases hk; exact hb.1
    · cases hk; exact hb.2.1
    · cases hk; exact hb.2.2.1
    · cases hk; exact hb.2.2.2
  · intro ρ hag
    have g0 : ρ.i 0 = a.ul := (hag 0 (by decide)).1.symm
    have g1 : ρ.i 1 = a.uh := (hag 1 (by decide)).1.symm
    have g2 : ρ.i 2 = a.sl := (hag 2 (by decide)).1.symm
    have g3 : ρ.i 3 = a.sh := (hag 3 (by decide)).1.symm
    have g4 : ρ.i 4 = b.ul := (hag 4 (by decide)).1.symm
    have g5 : ρ.i 5 = b.uh := (hag 5 (by decide)).1.symm
    have g6 : ρ.i 6 = b.sl := (hag 6 (by decide)).1.symm
    have g7 : ρ.i 7 = b.sh := (hag 7 (by decide)).1.symm
    show some ([.agg #[.int .u64 (ρ.i 0), .int .u64 (ρ.i 1), .int .i64 (ρ.i 2), .int .i64 (ρ.i 3)], .agg #[.int .u64 (ρ.i 4), .int .u64 (ρ.i 5), .int .i64 (ρ.i 6), .int .i64 (ρ.i 7)]] : List Value) = _
    rw [g0, g1, g2, g3, g4, g5, g6, g7]
  · intro ρ hag
    have g0 : ρ.i 0 = a.ul := (hag 0 (by decide)).1.symm
    have g1 : ρ.i 1 = a.uh := (hag 1 (by decide)).1.symm
    have g2 : ρ.i 2 = a.sl := (hag 2 (by decide)).1.symm
    have g3 : ρ.i 3 = a.sh := (hag 3 (by decide)).1.symm
    have g4 : ρ.i 4 = b.ul := (hag 4 (by decide)).1.symm
    have g5 : ρ.i 5 = b.uh := (hag 5 (by decide)).1.symm
    have g6 : ρ.i 6 = b.sl := (hag 6 (by decide)).1.symm
    have g7 : ρ.i 7 = b.sh := (hag 7 (by decide)).1.symm
    simp only [sT_vwid0, Tr.asks, eqs, E.I, E.B, E.L, V.den, C.den, denL, den0, den0L, Option.map_some, Nat.add_zero, Nat.reduceAdd, and_true, Rg.eta, Sc.eta_r, Sc.eta_k, Sc.eta_2, g0, g1, g2, g3, g4, g5, g6, g7]
    simp only [sP_vwid0, b01, Kn.eta, Pi.eta, Pu.eta, Rg.eta, Sc.eta, Sc.eta_r, Sc.eta_k, Sc.eta_2, sI_all, sB_all, sI_vendu, sB_vendu, sI_vendi, sB_vendi]
    rintro ⟨e8, e9, e10, e11⟩
    (try simp only [e8, e9, e10, e11, Kn.eta, Pi.eta, Pu.eta, Rg.eta, Sc.eta, Sc.eta_r, Sc.eta_k, Sc.eta_2])
    (try clear e8 e9 e10 e11)
    intro e12
    (try simp only [e12, Kn.eta, Pi.eta, Pu.eta, Rg.eta, Sc.eta, Sc.eta_r, Sc.eta_k, Sc.eta_2])
    (try clear e12)
    intro e13
    (try simp only [e13, Kn.eta, Pi.eta, Pu.eta, Rg.eta, Sc.eta, Sc.eta_r, Sc.eta_k, Sc.eta_2])
    (try clear e13)
    intro e14
    (try simp only [e14, Kn.eta, Pi.eta, Pu.eta, Rg.eta, Sc.eta, Sc.eta_r, Sc.eta_k, Sc.eta_2])
    (try clear e14)
    intro e15
    (try simp only [e15, Kn.eta, Pi.eta, Pu.eta, Rg.eta, Sc.eta, Sc.eta_r, Sc.eta_k, Sc.eta_2])
    (try clear e15)
    all_goals
      refine congrArg some ?_
      rfl
def sM_vwid0 (key : Nat) : Sm := ⟨97, key, [(true, [.int .u64, .int .u64, .int .i64, .int .i64]), (true, [.int .u64, .int .u64, .int .i64, .int .i64])], [(true, [.int .u64, .int .u64, .int .i64, .int .i64])], false⟩
def sI_vwid0 : Nat → List Int → Int
  | 0, [x0, x1, x2, x3, x4, x5, x6, x7] => (fun (a : Rg) (b : Rg) => (bwid a b).ul) ⟨x0, x1, x2, x3⟩ ⟨x4, x5, x6, x7⟩
  | 1, [x0, x1, x2, x3, x4, x5, x6, x7] => (fun (a : Rg) (b : Rg) => (bwid a b).uh) ⟨x0, x1, x2, x3⟩ ⟨x4, x5, x6, x7⟩
  | 2, [x0, x1, x2, x3, x4, x5, x6, x7] => (fun (a : Rg) (b : Rg) => (bwid a b).sl) ⟨x0, x1, x2, x3⟩ ⟨x4, x5, x6, x7⟩
  | 3, [x0, x1, x2, x3, x4, x5, x6, x7] => (fun (a : Rg) (b : Rg) => (bwid a b).sh) ⟨x0, x1, x2, x3⟩ ⟨x4, x5, x6, x7⟩
  | _, _ => 0
def sB_vwid0 : Nat → List Int → Bool
  | _, _ => false
theorem sK_vwid0 {sp : Spec} {key : Nat} (hI : sp.I key = sI_vwid0) (hB : sp.B key = sB_vwid0) : SmOk Try.prog sp (sM_vwid0 key) := by
  refine SmOk.of (.inl ⟨run_enter Try.func97 (by kernel_rfl) (by kernel_rfl), fun xs vals h => ?_⟩) (.inr (.inl ⟨_, rfl⟩))
  obtain ⟨_, _, _, p1, h1, rfl⟩ := shA h
  obtain ⟨_, _, _, d1_0, p1_0, rfl⟩ := cksC p1
  obtain ⟨x0, rfl, rfl, gx0⟩ := ckI d1_0
  obtain ⟨_, _, _, d1_1, p1_1, rfl⟩ := cksC p1_0
  obtain ⟨x1, rfl, rfl, gx1⟩ := ckI d1_1
  obtain ⟨_, _, _, d1_2, p1_2, rfl⟩ := cksC p1_1
  obtain ⟨x2, rfl, rfl, gx2⟩ := ckI d1_2
  obtain ⟨_, _, _, d1_3, p1_3, rfl⟩ := cksC p1_2
  obtain ⟨x3, rfl, rfl, gx3⟩ := ckI d1_3
  obtain ⟨rfl, rfl⟩ := cksN p1_3
  obtain ⟨_, _, _, p2, h2, rfl⟩ := shA h1
  obtain ⟨_, _, _, d2_0, p2_0, rfl⟩ := cksC p2
  obtain ⟨x4, rfl, rfl, gx4⟩ := ckI d2_0
  obtain ⟨_, _, _, d2_1, p2_1, rfl⟩ := cksC p2_0
  obtain ⟨x5, rfl, rfl, gx5⟩ := ckI d2_1
  obtain ⟨_, _, _, d2_2, p2_2, rfl⟩ := cksC p2_1
  obtain ⟨x6, rfl, rfl, gx6⟩ := ckI d2_2
  obtain ⟨_, _, _, d2_3, p2_3, rfl⟩ := cksC p2_2
  obtain ⟨x7, rfl, rfl, gx7⟩ := ckI d2_3
  obtain ⟨rfl, rfl⟩ := cksN p2_3
  obtain ⟨rfl, rfl⟩ := shN h2
  refine ⟨_, sX_vwid0 ⟨x0, x1, x2, x3⟩ ⟨gx0, gx1, gx2, gx3⟩ ⟨x4, x5, x6, x7⟩ ⟨gx4, gx5, gx6, gx7⟩, fun ρ v0 he => ?_⟩
  have he' : ρ.i (v0 + 0) = sp.I key 0 [x0, x1, x2, x3, x4, x5, x6, x7] ∧ ρ.i (v0 + 1) = sp.I key 1 [x0, x1, x2, x3, x4, x5, x6, x7] ∧ ρ.i (v0 + 2) = sp.I key 2 [x0, x1, x2, x3, x4, x5, x6, x7] ∧ ρ.i (v0 + 3) = sp.I key 3 [x0, x1, x2, x3, x4, x5, x6, x7] ∧ True := he
  simp only [hI, hB] at he'
  obtain ⟨e0, e1, e2, e3, -⟩ := he'
  show some (.agg #[.int .u64 (ρ.i (v0 + 0)), .int .u64 (ρ.i (v0 + 1)), .int .i64 (ρ.i (v0 + 2)), .int .i64 (ρ.i (v0 + 3))] : Value) = _
  rw [e0, e1, e2, e3]
  rfl
def sT_vtwow : Tr :=
(.call 0 [.bool] (.cons (.var 0) (.cons (.var 1) (.cons (.var 2) (.cons (.var 3) (.cons (.var 4) (.cons (.var 5) .nil)))))) 12
 (.br (.bvar 12)
 (.call 0 [.bool] (.cons (.var 6) (.cons (.var 7) (.cons (.var 8) (.cons (.var 9) (.cons (.var 10) (.cons (.var 11) .nil)))))) 13
  (.br (.bvar 13)
  (.call 3 [.int .u64, .int .u64, .int .i64, .int .i64] (.cons (.var 0) (.cons (.var 1) (.cons (.var 2) (.cons (.var 3) (.cons (.var 6) (.cons (.var 7) (.cons (.var 8) (.cons (.var 9) .nil)))))))) 14
   (.call 4 [.int .u64, .int .u64] (.cons (.var 4) (.cons (.var 5) (.cons (.var 10) (.cons (.var 11) .nil)))) 18
   (.call 2 [.int .u64, .int .u64, .int .i64, .int .i64, .int .u64, .int .u64] (.cons (.var 14) (.cons (.var 15) (.cons (.var 16) (.cons (.var 17) (.cons (.var 18) (.cons (.var 19) .nil)))))) 20
   (.leaf (.agg [.int .u64 (.var 20), .int .u64 (.var 21), .int .i64 (.var 22), .int .i64 (.var 23), .int .u64 (.var 24), .int .u64 (.var 25)])))))
  (.call 1 [.int .u64, .int .u64, .int .i64, .int .i64, .int .u64, .int .u64] .nil 14
   (.leaf (.agg [.int .u64 (.var 14), .int .u64 (.var 15), .int .i64 (.var 16), .int .i64 (.var 17), .int .u64 (.var 18), .int .u64 (.var 19)])))))
 (.call 1 [.int .u64, .int .u64, .int .i64, .int .i64, .int .u64, .int .u64] .nil 13
  (.leaf (.agg [.int .u64 (.var 13), .int .u64 (.var 14), .int .i64 (.var 15), .int .i64 (.var 16), .int .u64 (.var 17), .int .u64 (.var 18)])))))
def sP_vtwow : Spec := ⟨fun k => match k with | 0 => sI_vmay | 1 => sI_vall | 2 => sI_vnard | 3 => sI_vwid0 | 4 => sI_kjoin | _ => fun _ _ => 0, fun k => match k with | 0 => sB_vmay | 1 => sB_vall | 2 => sB_vnard | 3 => sB_vwid0 | 4 => sB_kjoin | _ => fun _ _ => false⟩
set_option maxRecDepth 100000 in
theorem sR_vtwow : funK ⟨tys_VaB, [sM_vmay 0, sM_vall 1, sM_vnard 2, sM_vwid0 3, sM_kjoin 4]⟩ 200 Try.f95 [.agg [.int .u64 (.var 0), .int .u64 (.var 1), .int .i64 (.var 2), .int .i64 (.var 3), .int .u64 (.var 4), .int .u64 (.var 5)], .agg [.int .u64 (.var 6), .int .u64 (.var 7), .int .i64 (.var 8), .int .i64 (.var 9), .int .u64 (.var 10), .int .u64 (.var 11)], .one (.fn 97), .one (.fn 96)] ⟨[], [], [some .u64, some .u64, some .i64, some .i64, some .u64, some .u64, some .u64, some .u64, some .i64, some .i64, some .u64, some .u64]⟩ = sT_vtwow := by kernel_rfl
set_option maxRecDepth 100000 in
set_option maxHeartbeats 8000000 in
theorem sX_vtwow (a : Sc) (ha : Sc.ok a) (b : Sc) (hb : Sc.ok b)   : (∀ w, Calls Try.prog 95 #[.agg #[.int .u64 a.ul, .int .u64 a.uh, .int .i64 a.sl, .int .i64 a.sh, .int .u64 a.v, .int .u64 a.m], .agg #[.int .u64 b.ul, .int .u64 b.uh, .int .i64 b.sl, .int .i64 b.sh, .int .u64 b.v, .int .u64 b.m], .func (.func 97) #[] #[], .func (.func 96) #[] #[]] w fun e w' => e = .returned (.agg #[.int .u64 (vwid a b).ul, .int .u64 (vwid a b).uh, .int .i64 (vwid a b).sl, .int .i64 (vwid a b).sh, .int .u64 (vwid a b).v, .int .u64 (vwid a b).m]) ∧ Ext w w') ∧ valIn (.agg #[.int .u64 (vwid a b).ul, .int .u64 (vwid a b).uh, .int .i64 (vwid a b).sl, .int .i64 (vwid a b).sh, .int .u64 (vwid a b).v, .int .u64 (vwid a b).m]) = true := by
  refine fun_calls (cx := ⟨tys_VaB, [sM_vmay 0, sM_vall 1, sM_vnard 2, sM_vwid0 3, sM_kjoin 4]⟩) (sp := sP_vtwow) (t := sT_vtwow) (by kernel_rfl) tysok_VaB (List.forall_mem_cons.2 ⟨sK_vmay rfl rfl, List.forall_mem_cons.2 ⟨sK_vall rfl rfl, List.forall_mem_cons.2 ⟨sK_vnard rfl rfl, List.forall_mem_cons.2 ⟨sK_vwid0 rfl rfl, List.forall_mem_cons.2 ⟨sK_kjoin rfl rfl, fun _ h => (by cases h)⟩⟩⟩⟩⟩) (keys_of (by kernel_rfl)) Try.func95 ⟨fun n => ([a.ul, a.uh, a.sl, a.sh, a.v, a.m, b.ul, b.uh, b.sl, b.sh, b.v, b.m] : List Int).getD n 0, fun n => ([false, false, false, false, false, false, false, false, false, false, false, false] : List Bool).getD n false⟩ sR_vtwow (by kernel_rfl) ?_ rfl (by intro p hp; cases hp) ?_ ?_
  · intro n k hk
    have hlt : n < 12 := by
      rcases Nat.lt_or_ge n 12 with h | h
      · exact h
      · rw [List.getElem?_eq_none h] at hk; cases hk
    rcases (show n = 0 ∨ n = 1 ∨ n = 2 ∨ n = 3 ∨ n = 4 ∨ n = 5 ∨ n = 6 ∨ n = 7 ∨ n = 8 ∨ n = 9 ∨ n = 10 ∨ n = 11 by omega) with rfl | rfl | rfl | rfl | rfl | rfl | rfl | rfl | rfl | rfl | rfl | rfl
    · cases hk; exact ha.1
    · cases hk; exact ha.2.1
    · cases hk; exact ha.2.2.1
    · cases hk; exact ha.2.2.2.1
    · cases hk; exact ha.2.2.2.2.1
    · cases hk; exact ha.2.2.2.2.2
    · cases hk; exact hb.1
    · cases hk; exact hb.2.1
    · cases hk; exact hb.2.2.1
    · cases hk; exact hb.2.2.2.1
    · cases hk; exact hb.2.2.2.2.1
    · cases hk; exact hb.2.2.2.2.2
  · intro ρ hag
    have g0 : ρ.i 0 = a.ul := (hag 0 (by decide)).1.symm
    have g1 : ρ.i 1 = a.uh := (hag 1 (by decide)).1.symm
    have g2 : ρ.i 2 = a.sl := (hag 2 (by decide)).1.symm
    have g3 : ρ.i 3 = a.sh := (hag 3 (by decide)).1.symm
    have g4 : ρ.i 4 = a.v := (hag 4 (by decide)).1.symm
    have g5 : ρ.i 5 = a.m := (hag 5 (by decide)).1.symm
    have g6 : ρ.i 6 = b.ul := (hag 6 (by decide)).1.symm
    have g7 : ρ.i 7 = b.uh := (hag 7 (by decide)).1.symm
    have g8 : ρ.i 8 = b.sl := (hag 8 (by decide)).1.symm
    have g9 : ρ.i 9 = b.sh := (hag 9 (by decide)).1.symm
    have g10 : ρ.i 10 = b.v := (hag 10 (by decide)).1.symm
    have g11 : ρ.i 11 = b.m := (hag 11 (by decide)).1.symm
    show some ([.agg #[.int .u64 (ρ.i 0), .int .u64 (ρ.i 1), .int .i64 (ρ.i 2), .int .i64 (ρ.i 3), .int .u64 (ρ.i 4), .int .u64 (ρ.i 5)], .agg #[.int .u64 (ρ.i 6), .int .u64 (ρ.i 7), .int .i64 (ρ.i 8), .int .i64 (ρ.i 9), .int .u64 (ρ.i 10), .int .u64 (ρ.i 11)], .func (.func 97) #[] #[], .func (.func 96) #[] #[]] : List Value) = _
    rw [g0, g1, g2, g3, g4, g5, g6, g7, g8, g9, g10, g11]
  · intro ρ hag
    have g0 : ρ.i 0 = a.ul := (hag 0 (by decide)).1.symm
    have g1 : ρ.i 1 = a.uh := (hag 1 (by decide)).1.symm
    have g2 : ρ.i 2 = a.sl := (hag 2 (by decide)).1.symm
    have g3 : ρ.i 3 = a.sh := (hag 3 (by decide)).1.symm
    have g4 : ρ.i 4 = a.v := (hag 4 (by decide)).1.symm
    have g5 : ρ.i 5 = a.m := (hag 5 (by decide)).1.symm
    have g6 : ρ.i 6 = b.ul := (hag 6 (by decide)).1.symm
    have g7 : ρ.i 7 = b.uh := (hag 7 (by decide)).1.symm
    have g8 : ρ.i 8 = b.sl := (hag 8 (by decide)).1.symm
    have g9 : ρ.i 9 = b.sh := (hag 9 (by decide)).1.symm
    have g10 : ρ.i 10 = b.v := (hag 10 (by decide)).1.symm
    have g11 : ρ.i 11 = b.m := (hag 11 (by decide)).1.symm
    simp only [sT_vtwow, Tr.asks, eqs, E.I, E.B, E.L, V.den, C.den, denL, den0, den0L, Option.map_some, Nat.add_zero, Nat.reduceAdd, and_true, Sc.eta, Sc.eta_r, Sc.eta_k, Sc.eta_2, g0, g1, g2, g3, g4, g5, g6, g7, g8, g9, g10, g11]
    simp only [sP_vtwow, b01, Kn.eta, Pi.eta, Pu.eta, Rg.eta, Sc.eta, Sc.eta_r, Sc.eta_k, Sc.eta_2, sI_vmay, sB_vmay, sI_vall, sB_vall, sI_vnard, sB_vnard, sI_vwid0, sB_vwid0, sI_kjoin, sB_kjoin]
    intro e12
    (try simp only [e12, Kn.eta, Pi.eta, Pu.eta, Rg.eta, Sc.eta, Sc.eta_r, Sc.eta_k, Sc.eta_2])
    (try clear e12)
    refine ⟨fun c0 => ?_, fun c0 => ?_⟩
    · skip
      intro e13
      (try simp only [e13, Kn.eta, Pi.eta, Pu.eta, Rg.eta, Sc.eta, Sc.eta_r, Sc.eta_k, Sc.eta_2])
      (try clear e13)
      refine ⟨fun c1 => ?_, fun c1 => ?_⟩
      · skip
        rintro ⟨e14, e15, e16, e17⟩
        (try simp only [e14, e15, e16, e17, Kn.eta, Pi.eta, Pu.eta, Rg.eta, Sc.eta, Sc.eta_r, Sc.eta_k, Sc.eta_2])
        (try clear e14 e15 e16 e17)
        rintro ⟨e18, e19⟩
        (try simp only [e18, e19, Kn.eta, Pi.eta, Pu.eta, Rg.eta, Sc.eta, Sc.eta_r, Sc.eta_k, Sc.eta_2])
        (try clear e18 e19)
        rintro ⟨e20, e21, e22, e23, e24, e25⟩
        (try simp only [e20, e21, e22, e23, e24, e25, Kn.eta, Pi.eta, Pu.eta, Rg.eta, Sc.eta, Sc.eta_r, Sc.eta_k, Sc.eta_2])
        (try clear e20 e21 e22 e23 e24 e25)
        all_goals
          refine congrArg some ?_
          (rw [show vwid a b = vnar (sc (bwid a.r b.r) (kjoin a.k b.k)) from if_pos ⟨c0, c1⟩]; try rfl)
      · skip
        rintro ⟨e14, e15, e16, e17, e18, e19⟩
        (try simp only [e14, e15, e16, e17, e18, e19, Kn.eta, Pi.eta, Pu.eta, Rg.eta, Sc.eta, Sc.eta_r, Sc.eta_k, Sc.eta_2])
        (try clear e14 e15 e16 e17 e18 e19)
        all_goals
          refine congrArg some ?_
          (rw [show vwid a b = vall from if_neg (fun q => by simp_all)]; try rfl)
    · skip
      rintro ⟨e13, e14, e15, e16, e17, e18⟩
      (try simp only [e13, e14, e15, e16, e17, e18, Kn.eta, Pi.eta, Pu.eta, Rg.eta, Sc.eta, Sc.eta_r, Sc.eta_k, Sc.eta_2])
      (try clear e13 e14 e15 e16 e17 e18)
      all_goals
        refine congrArg some ?_
        (rw [show vwid a b = vall from if_neg (fun q => by simp_all)]; try rfl)
def sM_vtwow (key : Nat) : Sm := ⟨95, key, [(true, [.int .u64, .int .u64, .int .i64, .int .i64, .int .u64, .int .u64]), (true, [.int .u64, .int .u64, .int .i64, .int .i64, .int .u64, .int .u64]), (false, [.fn 97]), (false, [.fn 96])], [(true, [.int .u64, .int .u64, .int .i64, .int .i64, .int .u64, .int .u64])], false⟩
def sI_vtwow : Nat → List Int → Int
  | 0, [x0, x1, x2, x3, x4, x5, x6, x7, x8, x9, x10, x11] => (fun (a : Sc) (b : Sc) => (vwid a b).ul) ⟨x0, x1, x2, x3, x4, x5⟩ ⟨x6, x7, x8, x9, x10, x11⟩
  | 1, [x0, x1, x2, x3, x4, x5, x6, x7, x8, x9, x10, x11] => (fun (a : Sc) (b : Sc) => (vwid a b).uh) ⟨x0, x1, x2, x3, x4, x5⟩ ⟨x6, x7, x8, x9, x10, x11⟩
  | 2, [x0, x1, x2, x3, x4, x5, x6, x7, x8, x9, x10, x11] => (fun (a : Sc) (b : Sc) => (vwid a b).sl) ⟨x0, x1, x2, x3, x4, x5⟩ ⟨x6, x7, x8, x9, x10, x11⟩
  | 3, [x0, x1, x2, x3, x4, x5, x6, x7, x8, x9, x10, x11] => (fun (a : Sc) (b : Sc) => (vwid a b).sh) ⟨x0, x1, x2, x3, x4, x5⟩ ⟨x6, x7, x8, x9, x10, x11⟩
  | 4, [x0, x1, x2, x3, x4, x5, x6, x7, x8, x9, x10, x11] => (fun (a : Sc) (b : Sc) => (vwid a b).v) ⟨x0, x1, x2, x3, x4, x5⟩ ⟨x6, x7, x8, x9, x10, x11⟩
  | 5, [x0, x1, x2, x3, x4, x5, x6, x7, x8, x9, x10, x11] => (fun (a : Sc) (b : Sc) => (vwid a b).m) ⟨x0, x1, x2, x3, x4, x5⟩ ⟨x6, x7, x8, x9, x10, x11⟩
  | _, _ => 0
def sB_vtwow : Nat → List Int → Bool
  | _, _ => false
theorem sK_vtwow {sp : Spec} {key : Nat} (hI : sp.I key = sI_vtwow) (hB : sp.B key = sB_vtwow) : SmOk Try.prog sp (sM_vtwow key) := by
  refine SmOk.of (.inl ⟨run_enter Try.func95 (by kernel_rfl) (by kernel_rfl), fun xs vals h => ?_⟩) (.inr (.inl ⟨_, rfl⟩))
  obtain ⟨_, _, _, p1, h1, rfl⟩ := shA h
  obtain ⟨_, _, _, d1_0, p1_0, rfl⟩ := cksC p1
  obtain ⟨x0, rfl, rfl, gx0⟩ := ckI d1_0
  obtain ⟨_, _, _, d1_1, p1_1, rfl⟩ := cksC p1_0
  obtain ⟨x1, rfl, rfl, gx1⟩ := ckI d1_1
  obtain ⟨_, _, _, d1_2, p1_2, rfl⟩ := cksC p1_1
  obtain ⟨x2, rfl, rfl, gx2⟩ := ckI d1_2
  obtain ⟨_, _, _, d1_3, p1_3, rfl⟩ := cksC p1_2
  obtain ⟨x3, rfl, rfl, gx3⟩ := ckI d1_3
  obtain ⟨_, _, _, d1_4, p1_4, rfl⟩ := cksC p1_3
  obtain ⟨x4, rfl, rfl, gx4⟩ := ckI d1_4
  obtain ⟨_, _, _, d1_5, p1_5, rfl⟩ := cksC p1_4
  obtain ⟨x5, rfl, rfl, gx5⟩ := ckI d1_5
  obtain ⟨rfl, rfl⟩ := cksN p1_5
  obtain ⟨_, _, _, p2, h2, rfl⟩ := shA h1
  obtain ⟨_, _, _, d2_0, p2_0, rfl⟩ := cksC p2
  obtain ⟨x6, rfl, rfl, gx6⟩ := ckI d2_0
  obtain ⟨_, _, _, d2_1, p2_1, rfl⟩ := cksC p2_0
  obtain ⟨x7, rfl, rfl, gx7⟩ := ckI d2_1
  obtain ⟨_, _, _, d2_2, p2_2, rfl⟩ := cksC p2_1
  obtain ⟨x8, rfl, rfl, gx8⟩ := ckI d2_2
  obtain ⟨_, _, _, d2_3, p2_3, rfl⟩ := cksC p2_2
  obtain ⟨x9, rfl, rfl, gx9⟩ := ckI d2_3
  obtain ⟨_, _, _, d2_4, p2_4, rfl⟩ := cksC p2_3
  obtain ⟨x10, rfl, rfl, gx10⟩ := ckI d2_4
  obtain ⟨_, _, _, d2_5, p2_5, rfl⟩ := cksC p2_4
  obtain ⟨x11, rfl, rfl, gx11⟩ := ckI d2_5
  obtain ⟨rfl, rfl⟩ := cksN p2_5
  obtain ⟨_, _, _, d3, h3, rfl⟩ := shO h2
  obtain ⟨rfl, rfl⟩ := ckF d3
  obtain ⟨_, _, _, d4, h4, rfl⟩ := shO h3
  obtain ⟨rfl, rfl⟩ := ckF d4
  obtain ⟨rfl, rfl⟩ := shN h4
  refine ⟨_, sX_vtwow ⟨x0, x1, x2, x3, x4, x5⟩ ⟨gx0, gx1, gx2, gx3, gx4, gx5⟩ ⟨x6, x7, x8, x9, x10, x11⟩ ⟨gx6, gx7, gx8, gx9, gx10, gx11⟩, fun ρ v0 he => ?_⟩
  have he' : ρ.i (v0 + 0) = sp.I key 0 [x0, x1, x2, x3, x4, x5, x6, x7, x8, x9, x10, x11] ∧ ρ.i (v0 + 1) = sp.I key 1 [x0, x1, x2, x3, x4, x5, x6, x7, x8, x9, x10, x11] ∧ ρ.i (v0 + 2) = sp.I key 2 [x0, x1, x2, x3, x4, x5, x6, x7, x8, x9, x10, x11] ∧ ρ.i (v0 + 3) = sp.I key 3 [x0, x1, x2, x3, x4, x5, x6, x7, x8, x9, x10, x11] ∧ ρ.i (v0 + 4) = sp.I key 4 [x0, x1, x2, x3, x4, x5, x6, x7, x8, x9, x10, x11] ∧ ρ.i (v0 + 5) = sp.I key 5 [x0, x1, x2, x3, x4, x5, x6, x7, x8, x9, x10, x11] ∧ True := he
  simp only [hI, hB] at he'
  obtain ⟨e0, e1, e2, e3, e4, e5, -⟩ := he'
  show some (.agg #[.int .u64 (ρ.i (v0 + 0)), .int .u64 (ρ.i (v0 + 1)), .int .i64 (ρ.i (v0 + 2)), .int .i64 (ρ.i (v0 + 3)), .int .u64 (ρ.i (v0 + 4)), .int .u64 (ρ.i (v0 + 5))] : Value) = _
  rw [e0, e1, e2, e3, e4, e5]
  rfl
def sT_vwid : Tr :=
(.call 0 [.int .u64, .int .u64, .int .i64, .int .i64, .int .u64, .int .u64] (.cons (.var 0) (.cons (.var 1) (.cons (.var 2) (.cons (.var 3) (.cons (.var 4) (.cons (.var 5) (.cons (.var 6) (.cons (.var 7) (.cons (.var 8) (.cons (.var 9) (.cons (.var 10) (.cons (.var 11) .nil)))))))))))) 12
 (.leaf (.agg [.int .u64 (.var 12), .int .u64 (.var 13), .int .i64 (.var 14), .int .i64 (.var 15), .int .u64 (.var 16), .int .u64 (.var 17)])))
def sP_vwid : Spec := ⟨fun k => match k with | 0 => sI_vtwow | _ => fun _ _ => 0, fun k => match k with | 0 => sB_vtwow | _ => fun _ _ => false⟩
set_option maxRecDepth 100000 in
theorem sR_vwid : funK ⟨tys_VaB, [sM_vtwow 0]⟩ 200 Try.f47 [.agg [.int .u64 (.var 0), .int .u64 (.var 1), .int .i64 (.var 2), .int .i64 (.var 3), .int .u64 (.var 4), .int .u64 (.var 5)], .agg [.int .u64 (.var 6), .int .u64 (.var 7), .int .i64 (.var 8), .int .i64 (.var 9), .int .u64 (.var 10), .int .u64 (.var 11)]] ⟨[], [], [some .u64, some .u64, some .i64, some .i64, some .u64, some .u64, some .u64, some .u64, some .i64, some .i64, some .u64, some .u64]⟩ = sT_vwid := by kernel_rfl
set_option maxRecDepth 100000 in
set_option maxHeartbeats 8000000 in
theorem sX_vwid (a : Sc) (ha : Sc.ok a) (b : Sc) (hb : Sc.ok b) : (∀ w, Calls Try.prog 47 #[.agg #[.int .u64 a.ul, .int .u64 a.uh, .int .i64 a.sl, .int .i64 a.sh, .int .u64 a.v, .int .u64 a.m], .agg #[.int .u64 b.ul, .int .u64 b.uh, .int .i64 b.sl, .int .i64 b.sh, .int .u64 b.v, .int .u64 b.m]] w fun e w' => e = .returned (.agg #[.int .u64 (vwid a b).ul, .int .u64 (vwid a b).uh, .int .i64 (vwid a b).sl, .int .i64 (vwid a b).sh, .int .u64 (vwid a b).v, .int .u64 (vwid a b).m]) ∧ Ext w w') ∧ valIn (.agg #[.int .u64 (vwid a b).ul, .int .u64 (vwid a b).uh, .int .i64 (vwid a b).sl, .int .i64 (vwid a b).sh, .int .u64 (vwid a b).v, .int .u64 (vwid a b).m]) = true := by
  refine fun_calls (cx := ⟨tys_VaB, [sM_vtwow 0]⟩) (sp := sP_vwid) (t := sT_vwid) (by kernel_rfl) tysok_VaB (List.forall_mem_cons.2 ⟨sK_vtwow rfl rfl, fun _ h => (by cases h)⟩) (keys_of (by kernel_rfl)) Try.func47 ⟨fun n => ([a.ul, a.uh, a.sl, a.sh, a.v, a.m, b.ul, b.uh, b.sl, b.sh, b.v, b.m] : List Int).getD n 0, fun n => ([false, false, false, false, false, false, false, false, false, false, false, false] : List Bool).getD n false⟩ sR_vwid (by kernel_rfl) ?_ rfl (by intro p hp; cases hp) ?_ ?_
  · intro n k hk
    have hlt : n < 12 := by
      rcases Nat.lt_or_ge n 12 with h | h
      · exact h
      · rw [List.getElem?_eq_none h] at hk; cases hk
    rcases (show n = 0 ∨ n = 1 ∨ n = 2 ∨ n = 3 ∨ n = 4 ∨ n = 5 ∨ n = 6 ∨ n = 7 ∨ n = 8 ∨ n = 9 ∨ n = 10 ∨ n = 11 by omega) with rfl | rfl | rfl | rfl | rfl | rfl | rfl | rfl | rfl | rfl | rfl | rfl
    · cases hk; exact ha.1
    · cases hk; exact ha.2.1
    · cases hk; exact ha.2.2.1
    · cases hk; exact ha.2.2.2.1
    · cases hk; exact ha.2.2.2.2.1
    · cases hk; exact ha.2.2.2.2.2
    · cases hk; exact hb.1
    · cases hk; exact hb.2.1
    · cases hk; exact hb.2.2.1
    · cases hk; exact hb.2.2.2.1
    · cases hk; exact hb.2.2.2.2.1
    · cases hk; exact hb.2.2.2.2.2
  · intro ρ hag
    have g0 : ρ.i 0 = a.ul := (hag 0 (by decide)).1.symm
    have g1 : ρ.i 1 = a.uh := (hag 1 (by decide)).1.symm
    have g2 : ρ.i 2 = a.sl := (hag 2 (by decide)).1.symm
    have g3 : ρ.i 3 = a.sh := (hag 3 (by decide)).1.symm
    have g4 : ρ.i 4 = a.v := (hag 4 (by decide)).1.symm
    have g5 : ρ.i 5 = a.m := (hag 5 (by decide)).1.symm
    have g6 : ρ.i 6 = b.ul := (hag 6 (by decide)).1.symm
    have g7 : ρ.i 7 = b.uh := (hag 7 (by decide)).1.symm
    have g8 : ρ.i 8 = b.sl := (hag 8 (by decide)).1.symm
    have g9 : ρ.i 9 = b.sh := (hag 9 (by decide)).1.symm
    have g10 : ρ.i 10 = b.v := (hag 10 (by decide)).1.symm
    have g11 : ρ.i 11 = b.m := (hag 11 (by decide)).1.symm
    show some ([.agg #[.int .u64 (ρ.i 0), .int .u64 (ρ.i 1), .int .i64 (ρ.i 2), .int .i64 (ρ.i 3), .int .u64 (ρ.i 4), .int .u64 (ρ.i 5)], .agg #[.int .u64 (ρ.i 6), .int .u64 (ρ.i 7), .int .i64 (ρ.i 8), .int .i64 (ρ.i 9), .int .u64 (ρ.i 10), .int .u64 (ρ.i 11)]] : List Value) = _
    rw [g0, g1, g2, g3, g4, g5, g6, g7, g8, g9, g10, g11]
  · intro ρ hag
    have g0 : ρ.i 0 = a.ul := (hag 0 (by decide)).1.symm
    have g1 : ρ.i 1 = a.uh := (hag 1 (by decide)).1.symm
    have g2 : ρ.i 2 = a.sl := (hag 2 (by decide)).1.symm
    have g3 : ρ.i 3 = a.sh := (hag 3 (by decide)).1.symm
    have g4 : ρ.i 4 = a.v := (hag 4 (by decide)).1.symm
    have g5 : ρ.i 5 = a.m := (hag 5 (by decide)).1.symm
    have g6 : ρ.i 6 = b.ul := (hag 6 (by decide)).1.symm
    have g7 : ρ.i 7 = b.uh := (hag 7 (by decide)).1.symm
    have g8 : ρ.i 8 = b.sl := (hag 8 (by decide)).1.symm
    have g9 : ρ.i 9 = b.sh := (hag 9 (by decide)).1.symm
    have g10 : ρ.i 10 = b.v := (hag 10 (by decide)).1.symm
    have g11 : ρ.i 11 = b.m := (hag 11 (by decide)).1.symm
    simp only [sT_vwid, Tr.asks, eqs, E.I, E.B, E.L, V.den, C.den, denL, den0, den0L, Option.map_some, Nat.add_zero, Nat.reduceAdd, and_true, Sc.eta, Sc.eta_r, Sc.eta_k, Sc.eta_2, g0, g1, g2, g3, g4, g5, g6, g7, g8, g9, g10, g11]
    simp only [sP_vwid, b01, Kn.eta, Pi.eta, Pu.eta, Rg.eta, Sc.eta, Sc.eta_r, Sc.eta_k, Sc.eta_2, sI_vtwow, sB_vtwow]
    rintro ⟨e12, e13, e14, e15, e16, e17⟩
    (try simp only [e12, e13, e14, e15, e16, e17, Kn.eta, Pi.eta, Pu.eta, Rg.eta, Sc.eta, Sc.eta_r, Sc.eta_k, Sc.eta_2])
    (try clear e12 e13 e14 e15 e16 e17)
    all_goals
      refine congrArg some ?_
      rfl
def sM_vwid (key : Nat) : Sm := ⟨47, key, [(true, [.int .u64, .int .u64, .int .i64, .int .i64, .int .u64, .int .u64]), (true, [.int .u64, .int .u64, .int .i64, .int .i64, .int .u64, .int .u64])], [(true, [.int .u64, .int .u64, .int .i64, .int .i64, .int .u64, .int .u64])], false⟩
def sI_vwid : Nat → List Int → Int
  | 0, [x0, x1, x2, x3, x4, x5, x6, x7, x8, x9, x10, x11] => (fun (a : Sc) (b : Sc) => (vwid a b).ul) ⟨x0, x1, x2, x3, x4, x5⟩ ⟨x6, x7, x8, x9, x10, x11⟩
  | 1, [x0, x1, x2, x3, x4, x5, x6, x7, x8, x9, x10, x11] => (fun (a : Sc) (b : Sc) => (vwid a b).uh) ⟨x0, x1, x2, x3, x4, x5⟩ ⟨x6, x7, x8, x9, x10, x11⟩
  | 2, [x0, x1, x2, x3, x4, x5, x6, x7, x8, x9, x10, x11] => (fun (a : Sc) (b : Sc) => (vwid a b).sl) ⟨x0, x1, x2, x3, x4, x5⟩ ⟨x6, x7, x8, x9, x10, x11⟩
  | 3, [x0, x1, x2, x3, x4, x5, x6, x7, x8, x9, x10, x11] => (fun (a : Sc) (b : Sc) => (vwid a b).sh) ⟨x0, x1, x2, x3, x4, x5⟩ ⟨x6, x7, x8, x9, x10, x11⟩
  | 4, [x0, x1, x2, x3, x4, x5, x6, x7, x8, x9, x10, x11] => (fun (a : Sc) (b : Sc) => (vwid a b).v) ⟨x0, x1, x2, x3, x4, x5⟩ ⟨x6, x7, x8, x9, x10, x11⟩
  | 5, [x0, x1, x2, x3, x4, x5, x6, x7, x8, x9, x10, x11] => (fun (a : Sc) (b : Sc) => (vwid a b).m) ⟨x0, x1, x2, x3, x4, x5⟩ ⟨x6, x7, x8, x9, x10, x11⟩
  | _, _ => 0
def sB_vwid : Nat → List Int → Bool
  | _, _ => false
theorem sK_vwid {sp : Spec} {key : Nat} (hI : sp.I key = sI_vwid) (hB : sp.B key = sB_vwid) : SmOk Try.prog sp (sM_vwid key) := by
  refine SmOk.of (.inl ⟨run_enter Try.func47 (by kernel_rfl) (by kernel_rfl), fun xs vals h => ?_⟩) (.inr (.inl ⟨_, rfl⟩))
  obtain ⟨_, _, _, p1, h1, rfl⟩ := shA h
  obtain ⟨_, _, _, d1_0, p1_0, rfl⟩ := cksC p1
  obtain ⟨x0, rfl, rfl, gx0⟩ := ckI d1_0
  obtain ⟨_, _, _, d1_1, p1_1, rfl⟩ := cksC p1_0
  obtain ⟨x1, rfl, rfl, gx1⟩ := ckI d1_1
  obtain ⟨_, _, _, d1_2, p1_2, rfl⟩ := cksC p1_1
  obtain ⟨x2, rfl, rfl, gx2⟩ := ckI d1_2
  obtain ⟨_, _, _, d1_3, p1_3, rfl⟩ := cksC p1_2
  obtain ⟨x3, rfl, rfl, gx3⟩ := ckI d1_3
  obtain ⟨_, _, _, d1_4, p1_4, rfl⟩ := cksC p1_3
  obtain ⟨x4, rfl, rfl, gx4⟩ := ckI d1_4
  obtain ⟨_, _, _, d1_5, p1_5, rfl⟩ := cksC p1_4
  obtain ⟨x5, rfl, rfl, gx5⟩ := ckI d1_5
  obtain ⟨rfl, rfl⟩ := cksN p1_5
  obtain ⟨_, _, _, p2, h2, rfl⟩ := shA h1
  obtain ⟨_, _, _, d2_0, p2_0, rfl⟩ := cksC p2
  obtain ⟨x6, rfl, rfl, gx6⟩ := ckI d2_0
  obtain ⟨_, _, _, d2_1, p2_1, rfl⟩ := cksC p2_0
  obtain ⟨x7, rfl, rfl, gx7⟩ := ckI d2_1
  obtain ⟨_, _, _, d2_2, p2_2, rfl⟩ := cksC p2_1
  obtain ⟨x8, rfl, rfl, gx8⟩ := ckI d2_2
  obtain ⟨_, _, _, d2_3, p2_3, rfl⟩ := cksC p2_2
  obtain ⟨x9, rfl, rfl, gx9⟩ := ckI d2_3
  obtain ⟨_, _, _, d2_4, p2_4, rfl⟩ := cksC p2_3
  obtain ⟨x10, rfl, rfl, gx10⟩ := ckI d2_4
  obtain ⟨_, _, _, d2_5, p2_5, rfl⟩ := cksC p2_4
  obtain ⟨x11, rfl, rfl, gx11⟩ := ckI d2_5
  obtain ⟨rfl, rfl⟩ := cksN p2_5
  obtain ⟨rfl, rfl⟩ := shN h2
  refine ⟨_, sX_vwid ⟨x0, x1, x2, x3, x4, x5⟩ ⟨gx0, gx1, gx2, gx3, gx4, gx5⟩ ⟨x6, x7, x8, x9, x10, x11⟩ ⟨gx6, gx7, gx8, gx9, gx10, gx11⟩, fun ρ v0 he => ?_⟩
  have he' : ρ.i (v0 + 0) = sp.I key 0 [x0, x1, x2, x3, x4, x5, x6, x7, x8, x9, x10, x11] ∧ ρ.i (v0 + 1) = sp.I key 1 [x0, x1, x2, x3, x4, x5, x6, x7, x8, x9, x10, x11] ∧ ρ.i (v0 + 2) = sp.I key 2 [x0, x1, x2, x3, x4, x5, x6, x7, x8, x9, x10, x11] ∧ ρ.i (v0 + 3) = sp.I key 3 [x0, x1, x2, x3, x4, x5, x6, x7, x8, x9, x10, x11] ∧ ρ.i (v0 + 4) = sp.I key 4 [x0, x1, x2, x3, x4, x5, x6, x7, x8, x9, x10, x11] ∧ ρ.i (v0 + 5) = sp.I key 5 [x0, x1, x2, x3, x4, x5, x6, x7, x8, x9, x10, x11] ∧ True := he
  simp only [hI, hB] at he'
  obtain ⟨e0, e1, e2, e3, e4, e5, -⟩ := he'
  show some (.agg #[.int .u64 (ρ.i (v0 + 0)), .int .u64 (ρ.i (v0 + 1)), .int .i64 (ρ.i (v0 + 2)), .int .i64 (ρ.i (v0 + 3)), .int .u64 (ρ.i (v0 + 4)), .int .u64 (ρ.i (v0 + 5))] : Value) = _
  rw [e0, e1, e2, e3, e4, e5]
  rfl
def sT_vlow : Tr :=
(.call 0 [.int .u64, .int .u64, .int .i64, .int .i64] (.cons (.var 0) (.cons (.var 1) (.cons (.var 2) (.cons (.var 3) .nil)))) 6
 (.call 1 [.int .u64, .int .u64] (.cons (.var 4) (.cons (.var 5) (.cons (.lit 32) .nil))) 10
 (.call 2 [.int .u64, .int .u64, .int .i64, .int .i64, .int .u64, .int .u64] (.cons (.var 6) (.cons (.var 7) (.cons (.var 8) (.cons (.var 9) (.cons (.var 10) (.cons (.var 11) .nil)))))) 12
 (.leaf (.agg [.int .u64 (.var 12), .int .u64 (.var 13), .int .i64 (.var 14), .int .i64 (.var 15), .int .u64 (.var 16), .int .u64 (.var 17)])))))
def sP_vlow : Spec := ⟨fun k => match k with | 0 => sI_low | 1 => sI_kcut | 2 => sI_vnard | _ => fun _ _ => 0, fun k => match k with | 0 => sB_low | 1 => sB_kcut | 2 => sB_vnard | _ => fun _ _ => false⟩
set_option maxRecDepth 100000 in
theorem sR_vlow : funK ⟨tys_VaB, [sM_low 0, sM_kcut 1, sM_vnard 2]⟩ 200 Try.f87 [.agg [.int .u64 (.var 0), .int .u64 (.var 1), .int .i64 (.var 2), .int .i64 (.var 3), .int .u64 (.var 4), .int .u64 (.var 5)]] ⟨[], [], [some .u64, some .u64, some .i64, some .i64, some .u64, some .u64]⟩ = sT_vlow := by kernel_rfl
set_option maxRecDepth 100000 in
set_option maxHeartbeats 8000000 in
theorem sX_vlow (a : Sc) (ha : Sc.ok a) : (∀ w, Calls Try.prog 87 #[.agg #[.int .u64 a.ul, .int .u64 a.uh, .int .i64 a.sl, .int .i64 a.sh, .int .u64 a.v, .int .u64 a.m]] w fun e w' => e = .returned (.agg #[.int .u64 (vlow a).ul, .int .u64 (vlow a).uh, .int .i64 (vlow a).sl, .int .i64 (vlow a).sh, .int .u64 (vlow a).v, .int .u64 (vlow a).m]) ∧ Ext w w') ∧ valIn (.agg #[.int .u64 (vlow a).ul, .int .u64 (vlow a).uh, .int .i64 (vlow a).sl, .int .i64 (vlow a).sh, .int .u64 (vlow a).v, .int .u64 (vlow a).m]) = true := by
  refine fun_calls (cx := ⟨tys_VaB, [sM_low 0, sM_kcut 1, sM_vnard 2]⟩) (sp := sP_vlow) (t := sT_vlow) (by kernel_rfl) tysok_VaB (List.forall_mem_cons.2 ⟨sK_low rfl rfl, List.forall_mem_cons.2 ⟨sK_kcut rfl rfl, List.forall_mem_cons.2 ⟨sK_vnard rfl rfl, fun _ h => (by cases h)⟩⟩⟩) (keys_of (by kernel_rfl)) Try.func87 ⟨fun n => ([a.ul, a.uh, a.sl, a.sh, a.v, a.m] : List Int).getD n 0, fun n => ([false, false, false, false, false, false] : List Bool).getD n false⟩ sR_vlow (by kernel_rfl) ?_ rfl (by intro p hp; cases hp) ?_ ?_
  · intro n k hk
    have hlt : n < 6 := by
      rcases Nat.lt_or_ge n 6 with h | h
      · exact h
      · rw [List.getElem?_eq_none h] at hk; cases hk
    rcases (show n = 0 ∨ n = 1 ∨ n = 2 ∨ n = 3 ∨ n = 4 ∨ n = 5 by omega) with rfl | rfl | rfl | rfl | rfl | rfl
    · cases hk; exact ha.1
    · cases hk; exact ha.2.1
    · cases hk; exact ha.2.2.1
    · cases hk; exact ha.2.2.2.1
    · cases hk; exact ha.2.2.2.2.1
    · cases hk; exact ha.2.2.2.2.2
  · intro ρ hag
    have g0 : ρ.i 0 = a.ul := (hag 0 (by decide)).1.symm
    have g1 : ρ.i 1 = a.uh := (hag 1 (by decide)).1.symm
    have g2 : ρ.i 2 = a.sl := (hag 2 (by decide)).1.symm
    have g3 : ρ.i 3 = a.sh := (hag 3 (by decide)).1.symm
    have g4 : ρ.i 4 = a.v := (hag 4 (by decide)).1.symm
    have g5 : ρ.i 5 = a.m := (hag 5 (by decide)).1.symm
    show some ([.agg #[.int .u64 (ρ.i 0), .int .u64 (ρ.i 1), .int .i64 (ρ.i 2), .int .i64 (ρ.i 3), .int .u64 (ρ.i 4), .int .u64 (ρ.i 5)]] : List Value) = _
    rw [g0, g1, g2, g3, g4, g5]
  · intro ρ hag
    have g0 : ρ.i 0 = a.ul := (hag 0 (by decide)).1.symm
    have g1 : ρ.i 1 = a.uh := (hag 1 (by decide)).1.symm
    have g2 : ρ.i 2 = a.sl := (hag 2 (by decide)).1.symm
    have g3 : ρ.i 3 = a.sh := (hag 3 (by decide)).1.symm
    have g4 : ρ.i 4 = a.v := (hag 4 (by decide)).1.symm
    have g5 : ρ.i 5 = a.m := (hag 5 (by decide)).1.symm
    simp only [sT_vlow, Tr.asks, eqs, E.I, E.B, E.L, V.den, C.den, denL, den0, den0L, Option.map_some, Nat.add_zero, Nat.reduceAdd, and_true, Sc.eta, Sc.eta_r, Sc.eta_k, Sc.eta_2, g0, g1, g2, g3, g4, g5]
    simp only [sP_vlow, b01, Kn.eta, Pi.eta, Pu.eta, Rg.eta, Sc.eta, Sc.eta_r, Sc.eta_k, Sc.eta_2, sI_low, sB_low, sI_kcut, sB_kcut, sI_vnard, sB_vnard]
    rintro ⟨e6, e7, e8, e9⟩
    (try simp only [e6, e7, e8, e9, Kn.eta, Pi.eta, Pu.eta, Rg.eta, Sc.eta, Sc.eta_r, Sc.eta_k, Sc.eta_2])
    (try clear e6 e7 e8 e9)
    rintro ⟨e10, e11⟩
    (try simp only [e10, e11, Kn.eta, Pi.eta, Pu.eta, Rg.eta, Sc.eta, Sc.eta_r, Sc.eta_k, Sc.eta_2])
    (try clear e10 e11)
    rintro ⟨e12, e13, e14, e15, e16, e17⟩
    (try simp only [e12, e13, e14, e15, e16, e17, Kn.eta, Pi.eta, Pu.eta, Rg.eta, Sc.eta, Sc.eta_r, Sc.eta_k, Sc.eta_2])
    (try clear e12 e13 e14 e15 e16 e17)
    all_goals
      refine congrArg some ?_
      rfl
def sM_vlow (key : Nat) : Sm := ⟨87, key, [(true, [.int .u64, .int .u64, .int .i64, .int .i64, .int .u64, .int .u64])], [(true, [.int .u64, .int .u64, .int .i64, .int .i64, .int .u64, .int .u64])], false⟩
def sI_vlow : Nat → List Int → Int
  | 0, [x0, x1, x2, x3, x4, x5] => (fun (a : Sc) => (vlow a).ul) ⟨x0, x1, x2, x3, x4, x5⟩
  | 1, [x0, x1, x2, x3, x4, x5] => (fun (a : Sc) => (vlow a).uh) ⟨x0, x1, x2, x3, x4, x5⟩
  | 2, [x0, x1, x2, x3, x4, x5] => (fun (a : Sc) => (vlow a).sl) ⟨x0, x1, x2, x3, x4, x5⟩
  | 3, [x0, x1, x2, x3, x4, x5] => (fun (a : Sc) => (vlow a).sh) ⟨x0, x1, x2, x3, x4, x5⟩
  | 4, [x0, x1, x2, x3, x4, x5] => (fun (a : Sc) => (vlow a).v) ⟨x0, x1, x2, x3, x4, x5⟩
  | 5, [x0, x1, x2, x3, x4, x5] => (fun (a : Sc) => (vlow a).m) ⟨x0, x1, x2, x3, x4, x5⟩
  | _, _ => 0
def sB_vlow : Nat → List Int → Bool
  | _, _ => false
theorem sK_vlow {sp : Spec} {key : Nat} (hI : sp.I key = sI_vlow) (hB : sp.B key = sB_vlow) : SmOk Try.prog sp (sM_vlow key) := by
  refine SmOk.of (.inl ⟨run_enter Try.func87 (by kernel_rfl) (by kernel_rfl), fun xs vals h => ?_⟩) (.inr (.inl ⟨_, rfl⟩))
  obtain ⟨_, _, _, p1, h1, rfl⟩ := shA h
  obtain ⟨_, _, _, d1_0, p1_0, rfl⟩ := cksC p1
  obtain ⟨x0, rfl, rfl, gx0⟩ := ckI d1_0
  obtain ⟨_, _, _, d1_1, p1_1, rfl⟩ := cksC p1_0
  obtain ⟨x1, rfl, rfl, gx1⟩ := ckI d1_1
  obtain ⟨_, _, _, d1_2, p1_2, rfl⟩ := cksC p1_1
  obtain ⟨x2, rfl, rfl, gx2⟩ := ckI d1_2
  obtain ⟨_, _, _, d1_3, p1_3, rfl⟩ := cksC p1_2
  obtain ⟨x3, rfl, rfl, gx3⟩ := ckI d1_3
  obtain ⟨_, _, _, d1_4, p1_4, rfl⟩ := cksC p1_3
  obtain ⟨x4, rfl, rfl, gx4⟩ := ckI d1_4
  obtain ⟨_, _, _, d1_5, p1_5, rfl⟩ := cksC p1_4
  obtain ⟨x5, rfl, rfl, gx5⟩ := ckI d1_5
  obtain ⟨rfl, rfl⟩ := cksN p1_5
  obtain ⟨rfl, rfl⟩ := shN h1
  refine ⟨_, sX_vlow ⟨x0, x1, x2, x3, x4, x5⟩ ⟨gx0, gx1, gx2, gx3, gx4, gx5⟩, fun ρ v0 he => ?_⟩
  have he' : ρ.i (v0 + 0) = sp.I key 0 [x0, x1, x2, x3, x4, x5] ∧ ρ.i (v0 + 1) = sp.I key 1 [x0, x1, x2, x3, x4, x5] ∧ ρ.i (v0 + 2) = sp.I key 2 [x0, x1, x2, x3, x4, x5] ∧ ρ.i (v0 + 3) = sp.I key 3 [x0, x1, x2, x3, x4, x5] ∧ ρ.i (v0 + 4) = sp.I key 4 [x0, x1, x2, x3, x4, x5] ∧ ρ.i (v0 + 5) = sp.I key 5 [x0, x1, x2, x3, x4, x5] ∧ True := he
  simp only [hI, hB] at he'
  obtain ⟨e0, e1, e2, e3, e4, e5, -⟩ := he'
  show some (.agg #[.int .u64 (ρ.i (v0 + 0)), .int .u64 (ρ.i (v0 + 1)), .int .i64 (ρ.i (v0 + 2)), .int .i64 (ρ.i (v0 + 3)), .int .u64 (ρ.i (v0 + 4)), .int .u64 (ρ.i (v0 + 5))] : Value) = _
  rw [e0, e1, e2, e3, e4, e5]
  rfl
def sT_vhalf : Tr :=
(.call 0 [.int .u64, .int .u64, .int .i64, .int .i64] .nil 13
 (.call 1 [.int .u64, .int .u64, .int .i64, .int .i64] (.cons (.var 13) (.cons (.var 14) (.cons (.var 15) (.cons (.var 16) .nil)))) 17
 (.br (.eq (.var 0) (.lit 8))
 (.leaf (.agg [.int .u64 (.var 17), .int .u64 (.var 18), .int .i64 (.var 19), .int .i64 (.var 20)]))
 (.br (.eq (.var 0) (.lit 12))
  (.leaf (.agg [.int .u64 (.var 17), .int .u64 (.var 18), .int .i64 (.var 19), .int .i64 (.var 20)]))
  (.br (.eq (.var 0) (.lit 6))
   (.call 2 [.int .u64, .bool] (.cons (.var 7) (.cons (.var 8) (.cons (.var 9) (.cons (.var 10) (.cons (.var 11) (.cons (.var 12) .nil)))))) 21
    (.br (.bvar 22)
    (.call 3 [.int .u64, .int .u64, .int .i64, .int .i64, .int .u64, .int .u64] (.cons (.bin .and .u64 (.var 21) (.lit 31)) .nil) 23
     (.call 4 [.int .u64, .int .u64, .int .i64, .int .i64] (.cons (.var 0) (.cons (.var 1) (.cons (.var 2) (.cons (.var 3) (.cons (.var 4) (.cons (.var 23) (.cons (.var 24) (.cons (.var 25) (.cons (.var 26) .nil))))))))) 29
     (.br (.lt (.var 30) (.lit 4294967296))
     (.leaf (.agg [.int .u64 (.var 29), .int .u64 (.var 30), .int .i64 (.var 31), .int .i64 (.var 32)]))
     (.leaf (.agg [.int .u64 (.var 17), .int .u64 (.var 18), .int .i64 (.var 19), .int .i64 (.var 20)])))))
    (.leaf (.agg [.int .u64 (.var 17), .int .u64 (.var 18), .int .i64 (.var 19), .int .i64 (.var 20)]))))
   (.br (.eq (.var 0) (.lit 7))
    (.call 2 [.int .u64, .bool] (.cons (.var 7) (.cons (.var 8) (.cons (.var 9) (.cons (.var 10) (.cons (.var 11) (.cons (.var 12) .nil)))))) 21
     (.br (.bvar 22)
     (.call 3 [.int .u64, .int .u64, .int .i64, .int .i64, .int .u64, .int .u64] (.cons (.bin .and .u64 (.var 21) (.lit 31)) .nil) 23
      (.call 4 [.int .u64, .int .u64, .int .i64, .int .i64] (.cons (.var 0) (.cons (.var 1) (.cons (.var 2) (.cons (.var 3) (.cons (.var 4) (.cons (.var 23) (.cons (.var 24) (.cons (.var 25) (.cons (.var 26) .nil))))))))) 29
      (.br (.lt (.var 30) (.lit 4294967296))
      (.leaf (.agg [.int .u64 (.var 29), .int .u64 (.var 30), .int .i64 (.var 31), .int .i64 (.var 32)]))
      (.leaf (.agg [.int .u64 (.var 17), .int .u64 (.var 18), .int .i64 (.var 19), .int .i64 (.var 20)])))))
     (.leaf (.agg [.int .u64 (.var 17), .int .u64 (.var 18), .int .i64 (.var 19), .int .i64 (.var 20)]))))
    (.call 4 [.int .u64, .int .u64, .int .i64, .int .i64] (.cons (.var 0) (.cons (.var 1) (.cons (.var 2) (.cons (.var 3) (.cons (.var 4) (.cons (.var 7) (.cons (.var 8) (.cons (.var 9) (.cons (.var 10) .nil))))))))) 21
     (.br (.lt (.var 22) (.lit 4294967296))
     (.leaf (.agg [.int .u64 (.var 21), .int .u64 (.var 22), .int .i64 (.var 23), .int .i64 (.var 24)]))
     (.leaf (.agg [.int .u64 (.var 17), .int .u64 (.var 18), .int .i64 (.var 19), .int .i64 (.var 20)]))))))))))
def sP_vhalf : Spec := ⟨fun k => match k with | 0 => sI_all | 1 => sI_low | 2 => sI_vsingle | 3 => sI_vone | 4 => sI_do | _ => fun _ _ => 0, fun k => match k with | 0 => sB_all | 1 => sB_low | 2 => sB_vsingle | 3 => sB_vone | 4 => sB_do | _ => fun _ _ => false⟩
set_option maxRecDepth 100000 in
theorem sR_vhalf : funK ⟨tys_VaB, [sM_all 0, sM_low 1, sM_vsingle 2, sM_vone 3, sM_do 4]⟩ 200 Try.f88 [.one (.int .i8 (.var 0)), .agg [.int .u64 (.var 1), .int .u64 (.var 2), .int .i64 (.var 3), .int .i64 (.var 4), .int .u64 (.var 5), .int .u64 (.var 6)], .agg [.int .u64 (.var 7), .int .u64 (.var 8), .int .i64 (.var 9), .int .i64 (.var 10), .int .u64 (.var 11), .int .u64 (.var 12)]] ⟨[], [], [some .i8, some .u64, some .u64, some .i64, some .i64, some .u64, some .u64, some .u64, some .u64, some .i64, some .i64, some .u64, some .u64]⟩ = sT_vhalf := by kernel_rfl
set_option maxRecDepth 100000 in
set_option maxHeartbeats 8000000 in
theorem sX_vhalf (op : Int) (hop : inK .i8 op = true) (a : Sc) (ha : Sc.ok a) (b : Sc) (hb : Sc.ok b) : (∀ w, Calls Try.prog 88 #[.int .i8 op, .agg #[.int .u64 a.ul, .int .u64 a.uh, .int .i64 a.sl, .int .i64 a.sh, .int .u64 a.v, .int .u64 a.m], .agg #[.int .u64 b.ul, .int .u64 b.uh, .int .i64 b.sl, .int .i64 b.sh, .int .u64 b.v, .int .u64 b.m]] w fun e w' => e = .returned (.agg #[.int .u64 (vhalf op a b).ul, .int .u64 (vhalf op a b).uh, .int .i64 (vhalf op a b).sl, .int .i64 (vhalf op a b).sh]) ∧ Ext w w') ∧ valIn (.agg #[.int .u64 (vhalf op a b).ul, .int .u64 (vhalf op a b).uh, .int .i64 (vhalf op a b).sl, .int .i64 (vhalf op a b).sh]) = true := by
  refine fun_calls (cx := ⟨tys_VaB, [sM_all 0, sM_low 1, sM_vsingle 2, sM_vone 3, sM_do 4]⟩) (sp := sP_vhalf) (t := sT_vhalf) (by kernel_rfl) tysok_VaB (List.forall_mem_cons.2 ⟨sK_all rfl rfl, List.forall_mem_cons.2 ⟨sK_low rfl rfl, List.forall_mem_cons.2 ⟨sK_vsingle rfl rfl, List.forall_mem_cons.2 ⟨sK_vone rfl rfl, List.forall_mem_cons.2 ⟨sK_do rfl rfl, fun _ h => (by cases h)⟩⟩⟩⟩⟩) (keys_of (by kernel_rfl)) Try.func88 ⟨fun n => ([op, a.ul, a.uh, a.sl, a.sh, a.v, a.m, b.ul, b.uh, b.sl, b.sh, b.v, b.m] : List Int).getD n 0, fun n => ([false, false, false, false, false, false, false, false, false, false, false, false, false] : List Bool).getD n false⟩ sR_vhalf (by kernel_rfl) ?_ rfl (by intro p hp; cases hp) ?_ ?_
  · intro n k hk
    have hlt : n < 13 := by
      rcases Nat.lt_or_ge n 13 with h | h
      · exact h
      · rw [List.getElem?_eq_none h] at hk; cases hk
    rcases (show n = 0 ∨ n = 1 ∨ n = 2 ∨ n = 3 ∨ n = 4 ∨ n = 5 ∨ n = 6 ∨ n = 7 ∨ n = 8 ∨ n = 9 ∨ n = 10 ∨ n = 11 ∨ n = 12 by omega) with rfl | rfl | rfl | rfl | rfl | rfl | rfl | rfl | rfl | rfl | rfl | rfl | rfl
    · cases hk; exact hop
    · cases hk; exact ha.1
    · cases hk; exact ha.2.1
    · cases hk; exact ha.2.2.1
    · cases hk; exact ha.2.2.2.1
    · cases hk; exact ha.2.2.2.2.1
    · cases hk; exact ha.2.2.2.2.2
    · cases hk; exact hb.1
    · cases hk; exact hb.2.1
    · cases hk; exact hb.2.2.1
    · cases hk; exact hb.2.2.2.1
    · cases hk; exact hb.2.2.2.2.1
    · cases hk; exact hb.2.2.2.2.2
  · intro ρ hag
    have g0 : ρ.i 0 = op := (hag 0 (by decide)).1.symm
    have g1 : ρ.i 1 = a.ul := (hag 1 (by decide)).1.symm
    have g2 : ρ.i 2 = a.uh := (hag 2 (by decide)).1.symm
    have g3 : ρ.i 3 = a.sl := (hag 3 (by decide)).1.symm
    have g4 : ρ.i 4 = a.sh := (hag 4 (by decide)).1.symm
    have g5 : ρ.i 5 = a.v := (hag 5 (by decide)).1.symm
    have g6 : ρ.i 6 = a.m := (hag 6 (by decide)).1.symm
    have g7 : ρ.i 7 = b.ul := (hag 7 (by decide)).1.symm
    have g8 : ρ.i 8 = b.uh := (hag 8 (by decide)).1.symm
    have g9 : ρ.i 9 = b.sl := (hag 9 (by decide)).1.symm
    have g10 : ρ.i 10 = b.sh := (hag 10 (by decide)).1.symm
    have g11 : ρ.i 11 = b.v := (hag 11 (by decide)).1.symm
    have g12 : ρ.i 12 = b.m := (hag 12 (by decide)).1.symm
    show some ([.int .i8 (ρ.i 0), .agg #[.int .u64 (ρ.i 1), .int .u64 (ρ.i 2), .int .i64 (ρ.i 3), .int .i64 (ρ.i 4), .int .u64 (ρ.i 5), .int .u64 (ρ.i 6)], .agg #[.int .u64 (ρ.i 7), .int .u64 (ρ.i 8), .int .i64 (ρ.i 9), .int .i64 (ρ.i 10), .int .u64 (ρ.i 11), .int .u64 (ρ.i 12)]] : List Value) = _
    rw [g0, g1, g2, g3, g4, g5, g6, g7, g8, g9, g10, g11, g12]
  · intro ρ hag
    have g0 : ρ.i 0 = op := (hag 0 (by decide)).1.symm
    have g1 : ρ.i 1 = a.ul := (hag 1 (by decide)).1.symm
    have g2 : ρ.i 2 = a.uh := (hag 2 (by decide)).1.symm
    have g3 : ρ.i 3 = a.sl := (hag 3 (by decide)).1.symm
    have g4 : ρ.i 4 = a.sh := (hag 4 (by decide)).1.symm
    have g5 : ρ.i 5 = a.v := (hag 5 (by decide)).1.symm
    have g6 : ρ.i 6 = a.m := (hag 6 (by decide)).1.symm
    have g7 : ρ.i 7 = b.ul := (hag 7 (by decide)).1.symm
    have g8 : ρ.i 8 = b.uh := (hag 8 (by decide)).1.symm
    have g9 : ρ.i 9 = b.sl := (hag 9 (by decide)).1.symm
    have g10 : ρ.i 10 = b.sh := (hag 10 (by decide)).1.symm
    have g11 : ρ.i 11 = b.v := (hag 11 (by decide)).1.symm
    have g12 : ρ.i 12 = b.m := (hag 12 (by decide)).1.symm
    simp only [sT_vhalf, Tr.asks, eqs, E.I, E.B, E.L, V.den, C.den, denL, den0, den0L, Option.map_some, Nat.add_zero, Nat.reduceAdd, and_true, Sc.eta, Sc.eta_r, Sc.eta_k, Sc.eta_2, g0, g1, g2, g3, g4, g5, g6, g7, g8, g9, g10, g11, g12]
    simp only [sP_vhalf, b01, Kn.eta, Pi.eta, Pu.eta, Rg.eta, Sc.eta, Sc.eta_r, Sc.eta_k, Sc.eta_2, sI_all, sB_all, sI_low, sB_low, sI_vsingle, sB_vsingle, sI_vone, sB_vone, sI_do, sB_do]
    rintro ⟨e13, e14, e15, e16⟩
    (try simp only [e13, e14, e15, e16, Kn.eta, Pi.eta, Pu.eta, Rg.eta, Sc.eta, Sc.eta_r, Sc.eta_k, Sc.eta_2])
    (try clear e13 e14 e15 e16)
    rintro ⟨e17, e18, e19, e20⟩
    (try simp only [e17, e18, e19, e20, Kn.eta, Pi.eta, Pu.eta, Rg.eta, Sc.eta, Sc.eta_r, Sc.eta_k, Sc.eta_2])
    (try clear e17 e18 e19 e20)
    refine ⟨fun c0 => ?_, fun c0 => ?_⟩
    · skip
      all_goals
        refine congrArg some ?_
        (obtain rfl := eqz c0; rw [show vhalf 8 a b = blow ball from by unfold vhalf; simp]; try rfl)
    · skip
      refine ⟨fun c1 => ?_, fun c1 => ?_⟩
      · skip
        all_goals
          refine congrArg some ?_
          (obtain rfl := eqz c1; rw [show vhalf 12 a b = blow ball from by unfold vhalf; simp]; try rfl)
      · skip
        refine ⟨fun c2 => ?_, fun c2 => ?_⟩
        · skip
          rintro ⟨e21, e22⟩
          (try simp only [e21, e22, Kn.eta, Pi.eta, Pu.eta, Rg.eta, Sc.eta, Sc.eta_r, Sc.eta_k, Sc.eta_2])
          (try clear e21 e22)
          refine ⟨fun c3 => ?_, fun c3 => ?_⟩
          · skip
            rintro ⟨e23, e24, e25, e26, e27, e28⟩
            (try simp only [e23, e24, e25, e26, e27, e28, Kn.eta, Pi.eta, Pu.eta, Rg.eta, Sc.eta, Sc.eta_r, Sc.eta_k, Sc.eta_2])
            (try clear e23 e24 e25 e26 e27 e28)
            rintro ⟨e29, e30, e31, e32⟩
            (try simp only [e29, e30, e31, e32, Kn.eta, Pi.eta, Pu.eta, Rg.eta, Sc.eta, Sc.eta_r, Sc.eta_k, Sc.eta_2])
            (try clear e29 e30 e31 e32)
            refine ⟨fun c4 => ?_, fun c4 => ?_⟩
            · skip
              all_goals
                refine congrArg some ?_
                (obtain rfl := eqz c2; have h4 := of_decide_eq_true c4; rw [show vhalf 6 a b = bdo 6 a.r (vone (opI .and .u64 (vsingle b) 31)).r from (by unfold vhalf; rw [if_neg (by decide), if_pos (by decide), if_pos c3]; exact if_pos h4)]; try rfl)
            · skip
              all_goals
                refine congrArg some ?_
                (obtain rfl := eqz c2; have h4 := of_decide_eq_false c4; rw [show vhalf 6 a b = blow ball from (by unfold vhalf; rw [if_neg (by decide), if_pos (by decide), if_pos c3]; exact if_neg h4)]; try rfl)
          · skip
            all_goals
              refine congrArg some ?_
              (obtain rfl := eqz c2; rw [show vhalf 6 a b = blow ball from by unfold vhalf; simp [c3]]; try rfl)
        · skip
          refine ⟨fun c5 => ?_, fun c5 => ?_⟩
          · skip
            rintro ⟨e21, e22⟩
            (try simp only [e21, e22, Kn.eta, Pi.eta, Pu.eta, Rg.eta, Sc.eta, Sc.eta_r, Sc.eta_k, Sc.eta_2])
            (try clear e21 e22)
            refine ⟨fun c6 => ?_, fun c6 => ?_⟩
            · skip
              rintro ⟨e23, e24, e25, e26, e27, e28⟩
              (try simp only [e23, e24, e25, e26, e27, e28, Kn.eta, Pi.eta, Pu.eta, Rg.eta, Sc.eta, Sc.eta_r, Sc.eta_k, Sc.eta_2])
              (try clear e23 e24 e25 e26 e27 e28)
              rintro ⟨e29, e30, e31, e32⟩
              (try simp only [e29, e30, e31, e32, Kn.eta, Pi.eta, Pu.eta, Rg.eta, Sc.eta, Sc.eta_r, Sc.eta_k, Sc.eta_2])
              (try clear e29 e30 e31 e32)
              refine ⟨fun c7 => ?_, fun c7 => ?_⟩
              · skip
                all_goals
                  refine congrArg some ?_
                  (obtain rfl := eqz c5; have h4 := of_decide_eq_true c7; rw [show vhalf 7 a b = bdo 7 a.r (vone (opI .and .u64 (vsingle b) 31)).r from (by unfold vhalf; rw [if_neg (by decide), if_pos (by decide), if_pos c6]; exact if_pos h4)]; try rfl)
              · skip
                all_goals
                  refine congrArg some ?_
                  (obtain rfl := eqz c5; have h4 := of_decide_eq_false c7; rw [show vhalf 7 a b = blow ball from (by unfold vhalf; rw [if_neg (by decide), if_pos (by decide), if_pos c6]; exact if_neg h4)]; try rfl)
            · skip
              all_goals
                refine congrArg some ?_
                (obtain rfl := eqz c5; rw [show vhalf 7 a b = blow ball from by unfold vhalf; simp [c6]]; try rfl)
          · skip
            rintro ⟨e21, e22, e23, e24⟩
            (try simp only [e21, e22, e23, e24, Kn.eta, Pi.eta, Pu.eta, Rg.eta, Sc.eta, Sc.eta_r, Sc.eta_k, Sc.eta_2])
            (try clear e21 e22 e23 e24)
            refine ⟨fun c8 => ?_, fun c8 => ?_⟩
            · skip
              all_goals
                refine congrArg some ?_
                (have n0 := nez c0; have n1 := nez c1; have n2 := nez c2; have n3 := nez c5; have h4 := of_decide_eq_true c8; rw [show vhalf op a b = bdo op a.r b.r from (by unfold vhalf; rw [if_neg (by omega), if_neg (by omega)]; exact if_pos h4)]; try rfl)
            · skip
              all_goals
                refine congrArg some ?_
                (have n0 := nez c0; have n1 := nez c1; have n2 := nez c2; have n3 := nez c5; have h4 := of_decide_eq_false c8; rw [show vhalf op a b = blow ball from (by unfold vhalf; rw [if_neg (by omega), if_neg (by omega)]; exact if_neg h4)]; try rfl)
def sM_vhalf (key : Nat) : Sm := ⟨88, key, [(false, [.int .i8]), (true, [.int .u64, .int .u64, .int .i64, .int .i64, .int .u64, .int .u64]), (true, [.int .u64, .int .u64, .int .i64, .int .i64, .int .u64, .int .u64])], [(true, [.int .u64, .int .u64, .int .i64, .int .i64])], false⟩
def sI_vhalf : Nat → List Int → Int
  | 0, [x0, x1, x2, x3, x4, x5, x6, x7, x8, x9, x10, x11, x12] => (fun (op : Int) (a : Sc) (b : Sc) => (vhalf op a b).ul) x0 ⟨x1, x2, x3, x4, x5, x6⟩ ⟨x7, x8, x9, x10, x11, x12⟩
  | 1, [x0, x1, x2, x3, x4, x5, x6, x7, x8, x9, x10, x11, x12] => (fun (op : Int) (a : Sc) (b : Sc) => (vhalf op a b).uh) x0 ⟨x1, x2, x3, x4, x5, x6⟩ ⟨x7, x8, x9, x10, x11, x12⟩
  | 2, [x0, x1, x2, x3, x4, x5, x6, x7, x8, x9, x10, x11, x12] => (fun (op : Int) (a : Sc) (b : Sc) => (vhalf op a b).sl) x0 ⟨x1, x2, x3, x4, x5, x6⟩ ⟨x7, x8, x9, x10, x11, x12⟩
  | 3, [x0, x1, x2, x3, x4, x5, x6, x7, x8, x9, x10, x11, x12] => (fun (op : Int) (a : Sc) (b : Sc) => (vhalf op a b).sh) x0 ⟨x1, x2, x3, x4, x5, x6⟩ ⟨x7, x8, x9, x10, x11, x12⟩
  | _, _ => 0
def sB_vhalf : Nat → List Int → Bool
  | _, _ => false
theorem sK_vhalf {sp : Spec} {key : Nat} (hI : sp.I key = sI_vhalf) (hB : sp.B key = sB_vhalf) : SmOk Try.prog sp (sM_vhalf key) := by
  refine SmOk.of (.inl ⟨run_enter Try.func88 (by kernel_rfl) (by kernel_rfl), fun xs vals h => ?_⟩) (.inr (.inl ⟨_, rfl⟩))
  obtain ⟨_, _, _, d1, h1, rfl⟩ := shO h
  obtain ⟨x0, rfl, rfl, gx0⟩ := ckI d1
  obtain ⟨_, _, _, p2, h2, rfl⟩ := shA h1
  obtain ⟨_, _, _, d2_0, p2_0, rfl⟩ := cksC p2
  obtain ⟨x1, rfl, rfl, gx1⟩ := ckI d2_0
  obtain ⟨_, _, _, d2_1, p2_1, rfl⟩ := cksC p2_0
  obtain ⟨x2, rfl, rfl, gx2⟩ := ckI d2_1
  obtain ⟨_, _, _, d2_2, p2_2, rfl⟩ := cksC p2_1
  obtain ⟨x3, rfl, rfl, gx3⟩ := ckI d2_2
  obtain ⟨_, _, _, d2_3, p2_3, rfl⟩ := cksC p2_2
  obtain ⟨x4, rfl, rfl, gx4⟩ := ckI d2_3
  obtain ⟨_, _, _, d2_4, p2_4, rfl⟩ := cksC p2_3
  obtain ⟨x5, rfl, rfl, gx5⟩ := ckI d2_4
  obtain ⟨_, _, _, d2_5, p2_5, rfl⟩ := cksC p2_4
  obtain ⟨x6, rfl, rfl, gx6⟩ := ckI d2_5
  obtain ⟨rfl, rfl⟩ := cksN p2_5
  obtain ⟨_, _, _, p3, h3, rfl⟩ := shA h2
  obtain ⟨_, _, _, d3_0, p3_0, rfl⟩ := cksC p3
  obtain ⟨x7, rfl, rfl, gx7⟩ := ckI d3_0
  obtain ⟨_, _, _, d3_1, p3_1, rfl⟩ := cksC p3_0
  obtain ⟨x8, rfl, rfl, gx8⟩ := ckI d3_1
  obtain ⟨_, _, _, d3_2, p3_2, rfl⟩ := cksC p3_1
  obtain ⟨x9, rfl, rfl, gx9⟩ := ckI d3_2
  obtain ⟨_, _, _, d3_3, p3_3, rfl⟩ := cksC p3_2
  obtain ⟨x10, rfl, rfl, gx10⟩ := ckI d3_3
  obtain ⟨_, _, _, d3_4, p3_4, rfl⟩ := cksC p3_3
  obtain ⟨x11, rfl, rfl, gx11⟩ := ckI d3_4
  obtain ⟨_, _, _, d3_5, p3_5, rfl⟩ := cksC p3_4
  obtain ⟨x12, rfl, rfl, gx12⟩ := ckI d3_5
  obtain ⟨rfl, rfl⟩ := cksN p3_5
  obtain ⟨rfl, rfl⟩ := shN h3
  refine ⟨_, sX_vhalf x0 gx0 ⟨x1, x2, x3, x4, x5, x6⟩ ⟨gx1, gx2, gx3, gx4, gx5, gx6⟩ ⟨x7, x8, x9, x10, x11, x12⟩ ⟨gx7, gx8, gx9, gx10, gx11, gx12⟩, fun ρ v0 he => ?_⟩
  have he' : ρ.i (v0 + 0) = sp.I key 0 [x0, x1, x2, x3, x4, x5, x6, x7, x8, x9, x10, x11, x12] ∧ ρ.i (v0 + 1) = sp.I key 1 [x0, x1, x2, x3, x4, x5, x6, x7, x8, x9, x10, x11, x12] ∧ ρ.i (v0 + 2) = sp.I key 2 [x0, x1, x2, x3, x4, x5, x6, x7, x8, x9, x10, x11, x12] ∧ ρ.i (v0 + 3) = sp.I key 3 [x0, x1, x2, x3, x4, x5, x6, x7, x8, x9, x10, x11, x12] ∧ True := he
  simp only [hI, hB] at he'
  obtain ⟨e0, e1, e2, e3, -⟩ := he'
  show some (.agg #[.int .u64 (ρ.i (v0 + 0)), .int .u64 (ρ.i (v0 + 1)), .int .i64 (ρ.i (v0 + 2)), .int .i64 (ρ.i (v0 + 3))] : Value) = _
  rw [e0, e1, e2, e3]
  rfl
def sT_vbel2 : Tr :=
(.call 0 [.int .u64, .int .u64, .int .i64, .int .i64] .nil 0
 (.call 1 [.int .u64, .int .u64, .int .i64, .int .i64, .int .u64, .int .u64] (.cons (.var 0) (.cons (.lit 65535) (.cons (.var 2) (.cons (.var 3) (.cons (.lit 0) (.cons (.lit 65535) .nil)))))) 4
 (.leaf (.agg [.int .u64 (.var 4), .int .u64 (.var 5), .int .i64 (.var 6), .int .i64 (.var 7), .int .u64 (.var 8), .int .u64 (.var 9)]))))
def sP_vbel2 : Spec := ⟨fun k => match k with | 0 => sI_all | 1 => sI_vnard | _ => fun _ _ => 0, fun k => match k with | 0 => sB_all | 1 => sB_vnard | _ => fun _ _ => false⟩
set_option maxRecDepth 100000 in
theorem sR_vbel2 : funK ⟨tys_VaB, [sM_all 0, sM_vnard 1]⟩ 200 Try.f126 [.one (.int .i64 (.lit 16))] ⟨[], [], []⟩ = sT_vbel2 := by kernel_rfl
set_option maxRecDepth 100000 in
set_option maxHeartbeats 8000000 in
theorem sX_vbel2  : (∀ w, Calls Try.prog 126 #[.int .i64 16] w fun e w' => e = .returned (.agg #[.int .u64 (vbel 65535).ul, .int .u64 (vbel 65535).uh, .int .i64 (vbel 65535).sl, .int .i64 (vbel 65535).sh, .int .u64 (vbel 65535).v, .int .u64 (vbel 65535).m]) ∧ Ext w w') ∧ valIn (.agg #[.int .u64 (vbel 65535).ul, .int .u64 (vbel 65535).uh, .int .i64 (vbel 65535).sl, .int .i64 (vbel 65535).sh, .int .u64 (vbel 65535).v, .int .u64 (vbel 65535).m]) = true := by
  refine fun_calls (cx := ⟨tys_VaB, [sM_all 0, sM_vnard 1]⟩) (sp := sP_vbel2) (t := sT_vbel2) (by kernel_rfl) tysok_VaB (List.forall_mem_cons.2 ⟨sK_all rfl rfl, List.forall_mem_cons.2 ⟨sK_vnard rfl rfl, fun _ h => (by cases h)⟩⟩) (keys_of (by kernel_rfl)) Try.func126 ⟨fun n => ([] : List Int).getD n 0, fun n => ([] : List Bool).getD n false⟩ sR_vbel2 (by kernel_rfl) ?_ rfl (by intro p hp; cases hp) ?_ ?_
  · intro n k hk
    have hlt : n < 0 := by
      rcases Nat.lt_or_ge n 0 with h | h
      · exact h
      · rw [List.getElem?_eq_none h] at hk; cases hk
    omega
  · intro ρ hag
    show some ([.int .i64 16] : List Value) = _
    rfl
  · intro ρ hag
    simp only [sT_vbel2, Tr.asks, eqs, E.I, E.B, E.L, V.den, C.den, denL, den0, den0L, Option.map_some, Nat.add_zero, Nat.reduceAdd, and_true, Sc.eta_r, Sc.eta_k, Sc.eta_2]
    simp only [sP_vbel2, b01, Kn.eta, Pi.eta, Pu.eta, Rg.eta, Sc.eta, Sc.eta_r, Sc.eta_k, Sc.eta_2, sI_all, sB_all, sI_vnard, sB_vnard]
    rintro ⟨e0, e1, e2, e3⟩
    (try simp only [e0, e1, e2, e3, Kn.eta, Pi.eta, Pu.eta, Rg.eta, Sc.eta, Sc.eta_r, Sc.eta_k, Sc.eta_2])
    (try clear e0 e1 e2 e3)
    rintro ⟨e4, e5, e6, e7, e8, e9⟩
    (try simp only [e4, e5, e6, e7, e8, e9, Kn.eta, Pi.eta, Pu.eta, Rg.eta, Sc.eta, Sc.eta_r, Sc.eta_k, Sc.eta_2])
    (try clear e4 e5 e6 e7 e8 e9)
    all_goals
      refine congrArg some ?_
      rfl
def sM_vbel2 (key : Nat) : Sm := ⟨126, key, [(false, [.lit .i64 16])], [(true, [.int .u64, .int .u64, .int .i64, .int .i64, .int .u64, .int .u64])], false⟩
def sI_vbel2 : Nat → List Int → Int
  | 0, [] => (vbel 65535).ul
  | 1, [] => (vbel 65535).uh
  | 2, [] => (vbel 65535).sl
  | 3, [] => (vbel 65535).sh
  | 4, [] => (vbel 65535).v
  | 5, [] => (vbel 65535).m
  | _, _ => 0
def sB_vbel2 : Nat → List Int → Bool
  | _, _ => false
theorem sK_vbel2 {sp : Spec} {key : Nat} (hI : sp.I key = sI_vbel2) (hB : sp.B key = sB_vbel2) : SmOk Try.prog sp (sM_vbel2 key) := by
  refine SmOk.of (.inl ⟨run_enter Try.func126 (by kernel_rfl) (by kernel_rfl), fun xs vals h => ?_⟩) (.inr (.inl ⟨_, rfl⟩))
  obtain ⟨_, _, _, d1, h1, rfl⟩ := shO h
  obtain ⟨rfl, rfl⟩ := ckT d1
  obtain ⟨rfl, rfl⟩ := shN h1
  refine ⟨_, sX_vbel2 , fun ρ v0 he => ?_⟩
  have he' : ρ.i (v0 + 0) = sp.I key 0 [] ∧ ρ.i (v0 + 1) = sp.I key 1 [] ∧ ρ.i (v0 + 2) = sp.I key 2 [] ∧ ρ.i (v0 + 3) = sp.I key 3 [] ∧ ρ.i (v0 + 4) = sp.I key 4 [] ∧ ρ.i (v0 + 5) = sp.I key 5 [] ∧ True := he
  simp only [hI, hB] at he'
  obtain ⟨e0, e1, e2, e3, e4, e5, -⟩ := he'
  show some (.agg #[.int .u64 (ρ.i (v0 + 0)), .int .u64 (ρ.i (v0 + 1)), .int .i64 (ρ.i (v0 + 2)), .int .i64 (ρ.i (v0 + 3)), .int .u64 (ρ.i (v0 + 4)), .int .u64 (ρ.i (v0 + 5))] : Value) = _
  rw [e0, e1, e2, e3, e4, e5]
  rfl
def sT_vby2 : Tr :=
(.call 0 [.int .u64, .int .u64, .int .i64, .int .i64, .int .u64, .int .u64] .nil 0
 (.leaf (.agg [.int .u64 (.var 0), .int .u64 (.var 1), .int .i64 (.var 2), .int .i64 (.var 3), .int .u64 (.var 4), .int .u64 (.var 5)])))
def sP_vby2 : Spec := ⟨fun k => match k with | 0 => sI_vbel2 | _ => fun _ _ => 0, fun k => match k with | 0 => sB_vbel2 | _ => fun _ _ => false⟩
set_option maxRecDepth 100000 in
theorem sR_vby2 : funK ⟨tys_VaB, [sM_vbel2 0]⟩ 200 Try.f89 [.one (.int .i64 (.lit 2))] ⟨[], [], []⟩ = sT_vby2 := by kernel_rfl
set_option maxRecDepth 100000 in
set_option maxHeartbeats 8000000 in
theorem sX_vby2  : (∀ w, Calls Try.prog 89 #[.int .i64 2] w fun e w' => e = .returned (.agg #[.int .u64 (vbel 65535).ul, .int .u64 (vbel 65535).uh, .int .i64 (vbel 65535).sl, .int .i64 (vbel 65535).sh, .int .u64 (vbel 65535).v, .int .u64 (vbel 65535).m]) ∧ Ext w w') ∧ valIn (.agg #[.int .u64 (vbel 65535).ul, .int .u64 (vbel 65535).uh, .int .i64 (vbel 65535).sl, .int .i64 (vbel 65535).sh, .int .u64 (vbel 65535).v, .int .u64 (vbel 65535).m]) = true := by
  refine fun_calls (cx := ⟨tys_VaB, [sM_vbel2 0]⟩) (sp := sP_vby2) (t := sT_vby2) (by kernel_rfl) tysok_VaB (List.forall_mem_cons.2 ⟨sK_vbel2 rfl rfl, fun _ h => (by cases h)⟩) (keys_of (by kernel_rfl)) Try.func89 ⟨fun n => ([] : List Int).getD n 0, fun n => ([] : List Bool).getD n false⟩ sR_vby2 (by kernel_rfl) ?_ rfl (by intro p hp; cases hp) ?_ ?_
  · intro n k hk
    have hlt : n < 0 := by
      rcases Nat.lt_or_ge n 0 with h | h
      · exact h
      · rw [List.getElem?_eq_none h] at hk; cases hk
    omega
  · intro ρ hag
    show some ([.int .i64 2] : List Value) = _
    rfl
  · intro ρ hag
    simp only [sT_vby2, Tr.asks, eqs, E.I, E.B, E.L, V.den, C.den, denL, den0, den0L, Option.map_some, Nat.add_zero, Nat.reduceAdd, and_true, Sc.eta_r, Sc.eta_k, Sc.eta_2]
    simp only [sP_vby2, b01, Kn.eta, Pi.eta, Pu.eta, Rg.eta, Sc.eta, Sc.eta_r, Sc.eta_k, Sc.eta_2, sI_vbel2, sB_vbel2]
    rintro ⟨e0, e1, e2, e3, e4, e5⟩
    (try simp only [e0, e1, e2, e3, e4, e5, Kn.eta, Pi.eta, Pu.eta, Rg.eta, Sc.eta, Sc.eta_r, Sc.eta_k, Sc.eta_2])
    (try clear e0 e1 e2 e3 e4 e5)
    all_goals
      refine congrArg some ?_
      rfl
def sM_vby2 (key : Nat) : Sm := ⟨89, key, [(false, [.lit .i64 2])], [(true, [.int .u64, .int .u64, .int .i64, .int .i64, .int .u64, .int .u64])], false⟩
def sI_vby2 : Nat → List Int → Int
  | 0, [] => (vbel 65535).ul
  | 1, [] => (vbel 65535).uh
  | 2, [] => (vbel 65535).sl
  | 3, [] => (vbel 65535).sh
  | 4, [] => (vbel 65535).v
  | 5, [] => (vbel 65535).m
  | _, _ => 0
def sB_vby2 : Nat → List Int → Bool
  | _, _ => false
theorem sK_vby2 {sp : Spec} {key : Nat} (hI : sp.I key = sI_vby2) (hB : sp.B key = sB_vby2) : SmOk Try.prog sp (sM_vby2 key) := by
  refine SmOk.of (.inl ⟨run_enter Try.func89 (by kernel_rfl) (by kernel_rfl), fun xs vals h => ?_⟩) (.inr (.inl ⟨_, rfl⟩))
  obtain ⟨_, _, _, d1, h1, rfl⟩ := shO h
  obtain ⟨rfl, rfl⟩ := ckT d1
  obtain ⟨rfl, rfl⟩ := shN h1
  refine ⟨_, sX_vby2 , fun ρ v0 he => ?_⟩
  have he' : ρ.i (v0 + 0) = sp.I key 0 [] ∧ ρ.i (v0 + 1) = sp.I key 1 [] ∧ ρ.i (v0 + 2) = sp.I key 2 [] ∧ ρ.i (v0 + 3) = sp.I key 3 [] ∧ ρ.i (v0 + 4) = sp.I key 4 [] ∧ ρ.i (v0 + 5) = sp.I key 5 [] ∧ True := he
  simp only [hI, hB] at he'
  obtain ⟨e0, e1, e2, e3, e4, e5, -⟩ := he'
  show some (.agg #[.int .u64 (ρ.i (v0 + 0)), .int .u64 (ρ.i (v0 + 1)), .int .i64 (ρ.i (v0 + 2)), .int .i64 (ρ.i (v0 + 3)), .int .u64 (ρ.i (v0 + 4)), .int .u64 (ρ.i (v0 + 5))] : Value) = _
  rw [e0, e1, e2, e3, e4, e5]
  rfl
def sT_vbel4 : Tr :=
(.call 0 [.int .u64, .int .u64, .int .i64, .int .i64] .nil 0
 (.call 1 [.int .u64, .int .u64, .int .i64, .int .i64, .int .u64, .int .u64] (.cons (.var 0) (.cons (.lit 4294967295) (.cons (.var 2) (.cons (.var 3) (.cons (.lit 0) (.cons (.lit 4294967295) .nil)))))) 4
 (.leaf (.agg [.int .u64 (.var 4), .int .u64 (.var 5), .int .i64 (.var 6), .int .i64 (.var 7), .int .u64 (.var 8), .int .u64 (.var 9)]))))
def sP_vbel4 : Spec := ⟨fun k => match k with | 0 => sI_all | 1 => sI_vnard | _ => fun _ _ => 0, fun k => match k with | 0 => sB_all | 1 => sB_vnard | _ => fun _ _ => false⟩
set_option maxRecDepth 100000 in
theorem sR_vbel4 : funK ⟨tys_VaB, [sM_all 0, sM_vnard 1]⟩ 200 Try.f126 [.one (.int .i64 (.lit 32))] ⟨[], [], []⟩ = sT_vbel4 := by kernel_rfl
set_option maxRecDepth 100000 in
set_option maxHeartbeats 8000000 in
theorem sX_vbel4  : (∀ w, Calls Try.prog 126 #[.int .i64 32] w fun e w' => e = .returned (.agg #[.int .u64 (vbel 4294967295).ul, .int .u64 (vbel 4294967295).uh, .int .i64 (vbel 4294967295).sl, .int .i64 (vbel 4294967295).sh, .int .u64 (vbel 4294967295).v, .int .u64 (vbel 4294967295).m]) ∧ Ext w w') ∧ valIn (.agg #[.int .u64 (vbel 4294967295).ul, .int .u64 (vbel 4294967295).uh, .int .i64 (vbel 4294967295).sl, .int .i64 (vbel 4294967295).sh, .int .u64 (vbel 4294967295).v, .int .u64 (vbel 4294967295).m]) = true := by
  refine fun_calls (cx := ⟨tys_VaB, [sM_all 0, sM_vnard 1]⟩) (sp := sP_vbel4) (t := sT_vbel4) (by kernel_rfl) tysok_VaB (List.forall_mem_cons.2 ⟨sK_all rfl rfl, List.forall_mem_cons.2 ⟨sK_vnard rfl rfl, fun _ h => (by cases h)⟩⟩) (keys_of (by kernel_rfl)) Try.func126 ⟨fun n => ([] : List Int).getD n 0, fun n => ([] : List Bool).getD n false⟩ sR_vbel4 (by kernel_rfl) ?_ rfl (by intro p hp; cases hp) ?_ ?_
  · intro n k hk
    have hlt : n < 0 := by
      rcases Nat.lt_or_ge n 0 with h | h
      · exact h
      · rw [List.getElem?_eq_none h] at hk; cases hk
    omega
  · intro ρ hag
    show some ([.int .i64 32] : List Value) = _
    rfl
  · intro ρ hag
    simp only [sT_vbel4, Tr.asks, eqs, E.I, E.B, E.L, V.den, C.den, denL, den0, den0L, Option.map_some, Nat.add_zero, Nat.reduceAdd, and_true, Sc.eta_r, Sc.eta_k, Sc.eta_2]
    simp only [sP_vbel4, b01, Kn.eta, Pi.eta, Pu.eta, Rg.eta, Sc.eta, Sc.eta_r, Sc.eta_k, Sc.eta_2, sI_all, sB_all, sI_vnard, sB_vnard]
    rintro ⟨e0, e1, e2, e3⟩
    (try simp only [e0, e1, e2, e3, Kn.eta, Pi.eta, Pu.eta, Rg.eta, Sc.eta, Sc.eta_r, Sc.eta_k, Sc.eta_2])
    (try clear e0 e1 e2 e3)
    rintro ⟨e4, e5, e6, e7, e8, e9⟩
    (try simp only [e4, e5, e6, e7, e8, e9, Kn.eta, Pi.eta, Pu.eta, Rg.eta, Sc.eta, Sc.eta_r, Sc.eta_k, Sc.eta_2])
    (try clear e4 e5 e6 e7 e8 e9)
    all_goals
      refine congrArg some ?_
      rfl
def sM_vbel4 (key : Nat) : Sm := ⟨126, key, [(false, [.lit .i64 32])], [(true, [.int .u64, .int .u64, .int .i64, .int .i64, .int .u64, .int .u64])], false⟩
def sI_vbel4 : Nat → List Int → Int
  | 0, [] => (vbel 4294967295).ul
  | 1, [] => (vbel 4294967295).uh
  | 2, [] => (vbel 4294967295).sl
  | 3, [] => (vbel 4294967295).sh
  | 4, [] => (vbel 4294967295).v
  | 5, [] => (vbel 4294967295).m
  | _, _ => 0
def sB_vbel4 : Nat → List Int → Bool
  | _, _ => false
theorem sK_vbel4 {sp : Spec} {key : Nat} (hI : sp.I key = sI_vbel4) (hB : sp.B key = sB_vbel4) : SmOk Try.prog sp (sM_vbel4 key) := by
  refine SmOk.of (.inl ⟨run_enter Try.func126 (by kernel_rfl) (by kernel_rfl), fun xs vals h => ?_⟩) (.inr (.inl ⟨_, rfl⟩))
  obtain ⟨_, _, _, d1, h1, rfl⟩ := shO h
  obtain ⟨rfl, rfl⟩ := ckT d1
  obtain ⟨rfl, rfl⟩ := shN h1
  refine ⟨_, sX_vbel4 , fun ρ v0 he => ?_⟩
  have he' : ρ.i (v0 + 0) = sp.I key 0 [] ∧ ρ.i (v0 + 1) = sp.I key 1 [] ∧ ρ.i (v0 + 2) = sp.I key 2 [] ∧ ρ.i (v0 + 3) = sp.I key 3 [] ∧ ρ.i (v0 + 4) = sp.I key 4 [] ∧ ρ.i (v0 + 5) = sp.I key 5 [] ∧ True := he
  simp only [hI, hB] at he'
  obtain ⟨e0, e1, e2, e3, e4, e5, -⟩ := he'
  show some (.agg #[.int .u64 (ρ.i (v0 + 0)), .int .u64 (ρ.i (v0 + 1)), .int .i64 (ρ.i (v0 + 2)), .int .i64 (ρ.i (v0 + 3)), .int .u64 (ρ.i (v0 + 4)), .int .u64 (ρ.i (v0 + 5))] : Value) = _
  rw [e0, e1, e2, e3, e4, e5]
  rfl
def sT_vby4 : Tr :=
(.call 0 [.int .u64, .int .u64, .int .i64, .int .i64, .int .u64, .int .u64] .nil 0
 (.leaf (.agg [.int .u64 (.var 0), .int .u64 (.var 1), .int .i64 (.var 2), .int .i64 (.var 3), .int .u64 (.var 4), .int .u64 (.var 5)])))
def sP_vby4 : Spec := ⟨fun k => match k with | 0 => sI_vbel4 | _ => fun _ _ => 0, fun k => match k with | 0 => sB_vbel4 | _ => fun _ _ => false⟩
set_option maxRecDepth 100000 in
theorem sR_vby4 : funK ⟨tys_VaB, [sM_vbel4 0]⟩ 200 Try.f89 [.one (.int .i64 (.lit 4))] ⟨[], [], []⟩ = sT_vby4 := by kernel_rfl
set_option maxRecDepth 100000 in
set_option maxHeartbeats 8000000 in
theorem sX_vby4  : (∀ w, Calls Try.prog 89 #[.int .i64 4] w fun e w' => e = .returned (.agg #[.int .u64 (vbel 4294967295).ul, .int .u64 (vbel 4294967295).uh, .int .i64 (vbel 4294967295).sl, .int .i64 (vbel 4294967295).sh, .int .u64 (vbel 4294967295).v, .int .u64 (vbel 4294967295).m]) ∧ Ext w w') ∧ valIn (.agg #[.int .u64 (vbel 4294967295).ul, .int .u64 (vbel 4294967295).uh, .int .i64 (vbel 4294967295).sl, .int .i64 (vbel 4294967295).sh, .int .u64 (vbel 4294967295).v, .int .u64 (vbel 4294967295).m]) = true := by
  refine fun_calls (cx := ⟨tys_VaB, [sM_vbel4 0]⟩) (sp := sP_vby4) (t := sT_vby4) (by kernel_rfl) tysok_VaB (List.forall_mem_cons.2 ⟨sK_vbel4 rfl rfl, fun _ h => (by cases h)⟩) (keys_of (by kernel_rfl)) Try.func89 ⟨fun n => ([] : List Int).getD n 0, fun n => ([] : List Bool).getD n false⟩ sR_vby4 (by kernel_rfl) ?_ rfl (by intro p hp; cases hp) ?_ ?_
  · intro n k hk
    have hlt : n < 0 := by
      rcases Nat.lt_or_ge n 0 with h | h
      · exact h
      · rw [List.getElem?_eq_none h] at hk; cases hk
    omega
  · intro ρ hag
    show some ([.int .i64 4] : List Value) = _
    rfl
  · intro ρ hag
    simp only [sT_vby4, Tr.asks, eqs, E.I, E.B, E.L, V.den, C.den, denL, den0, den0L, Option.map_some, Nat.add_zero, Nat.reduceAdd, and_true, Sc.eta_r, Sc.eta_k, Sc.eta_2]
    simp only [sP_vby4, b01, Kn.eta, Pi.eta, Pu.eta, Rg.eta, Sc.eta, Sc.eta_r, Sc.eta_k, Sc.eta_2, sI_vbel4, sB_vbel4]
    rintro ⟨e0, e1, e2, e3, e4, e5⟩
    (try simp only [e0, e1, e2, e3, e4, e5, Kn.eta, Pi.eta, Pu.eta, Rg.eta, Sc.eta, Sc.eta_r, Sc.eta_k, Sc.eta_2])
    (try clear e0 e1 e2 e3 e4 e5)
    all_goals
      refine congrArg some ?_
      rfl
def sM_vby4 (key : Nat) : Sm := ⟨89, key, [(false, [.lit .i64 4])], [(true, [.int .u64, .int .u64, .int .i64, .int .i64, .int .u64, .int .u64])], false⟩
def sI_vby4 : Nat → List Int → Int
  | 0, [] => (vbel 4294967295).ul
  | 1, [] => (vbel 4294967295).uh
  | 2, [] => (vbel 4294967295).sl
  | 3, [] => (vbel 4294967295).sh
  | 4, [] => (vbel 4294967295).v
  | 5, [] => (vbel 4294967295).m
  | _, _ => 0
def sB_vby4 : Nat → List Int → Bool
  | _, _ => false
theorem sK_vby4 {sp : Spec} {key : Nat} (hI : sp.I key = sI_vby4) (hB : sp.B key = sB_vby4) : SmOk Try.prog sp (sM_vby4 key) := by
  refine SmOk.of (.inl ⟨run_enter Try.func89 (by kernel_rfl) (by kernel_rfl), fun xs vals h => ?_⟩) (.inr (.inl ⟨_, rfl⟩))
  obtain ⟨_, _, _, d1, h1, rfl⟩ := shO h
  obtain ⟨rfl, rfl⟩ := ckT d1
  obtain ⟨rfl, rfl⟩ := shN h1
  refine ⟨_, sX_vby4 , fun ρ v0 he => ?_⟩
  have he' : ρ.i (v0 + 0) = sp.I key 0 [] ∧ ρ.i (v0 + 1) = sp.I key 1 [] ∧ ρ.i (v0 + 2) = sp.I key 2 [] ∧ ρ.i (v0 + 3) = sp.I key 3 [] ∧ ρ.i (v0 + 4) = sp.I key 4 [] ∧ ρ.i (v0 + 5) = sp.I key 5 [] ∧ True := he
  simp only [hI, hB] at he'
  obtain ⟨e0, e1, e2, e3, e4, e5, -⟩ := he'
  show some (.agg #[.int .u64 (ρ.i (v0 + 0)), .int .u64 (ρ.i (v0 + 1)), .int .i64 (ρ.i (v0 + 2)), .int .i64 (ρ.i (v0 + 3)), .int .u64 (ρ.i (v0 + 4)), .int .u64 (ρ.i (v0 + 5))] : Value) = _
  rw [e0, e1, e2, e3, e4, e5]
  rfl
end Go.Proofs.Ytcngfmhhaleoaaa
