/- Scalars: what the functions of package value come to. Plain definitions. -/
import Derived.Test.YtcfnglbcgkappaaGreatXbE
import Derived.Test.YtcfnglbcgkappaaGreatKn
set_option linter.unusedVariables false
set_option linter.unusedSimpArgs false
namespace Go.Proofs.YtcfnglbcgkappaaGreat
open Go Go.RowKit
structure Sc where
  ul : Int
  uh : Int
  sl : Int
  sh : Int
  v : Int
  m : Int
def Sc.r (a : Sc) : Rg := ⟨a.ul, a.uh, a.sl, a.sh⟩
def Sc.k (a : Sc) : Kn := ⟨a.v, a.m⟩
def sc (r : Rg) (k : Kn) : Sc := ⟨r.ul, r.uh, r.sl, r.sh, k.v, k.m⟩
theorem Sc.eta_r (a : Sc) : (⟨a.ul, a.uh, a.sl, a.sh⟩ : Rg) = a.r := rfl
theorem Sc.eta_k (a : Sc) : (⟨a.v, a.m⟩ : Kn) = a.k := rfl
theorem Sc.eta_2 (r : Rg) (k : Kn) : (⟨r.ul, r.uh, r.sl, r.sh, k.v, k.m⟩ : Sc) = sc r k := rfl
def vmay (a : Sc) : Bool := bmay a.r && kmay a.k
def vall : Sc := sc ball kall
def vone (v : Int) : Sc := sc (bone v) (kone v)
def vhas (a : Sc) (x : Int) : Bool := vmay a && (bhas a.r x && khas a.k x)
def vones (a : Sc) : Bool := vmay a && bones a.r
def vsingle (a : Sc) : Int := if vmay a = true then bsingle a.r else 0
def kcom (r : Rg) : Kn := kmask r.ul (bfill (bits .xor .u64 r.ul r.uh))
def vlo (k : Kn) : Rg := ⟨k.v, bits .or .u64 k.v k.m, ball.sl, ball.sh⟩
def vs1 (a : Sc) : Bool := bmeets a.r (vlo a.k)
def vs2 (a : Sc) : Bool := kmeets a.k (kcom (bmeet a.r (vlo a.k)))
def vst (a : Sc) : Sc := sc (bmeet a.r (vlo a.k)) (kmeet a.k (kcom (bmeet a.r (vlo a.k))))
def vnok (a : Sc) : Bool := vmay a && (vs1 a && (vs2 a && (vs1 (vst a) && vs2 (vst a))))
def vnar (a : Sc) : Sc := if vnok a = true then vst (vst a) else vall
theorem vn_t {a : Sc} (h0 : vmay a = true) (h1 : vs1 a = true) (h2 : vs2 a = true) (h3 : vs1 (vst a) = true) (h4 : vs2 (vst a) = true) : vnar a = vst (vst a) ∧ vnok a = true := by
  have h : vnok a = true := by unfold vnok; rw [h0, h1, h2, h3, h4]; rfl
  exact ⟨if_pos h, h⟩
theorem vn_f {a : Sc} (h : vmay a = false ∨ vs1 a = false ∨ vs2 a = false ∨ vs1 (vst a) = false ∨ vs2 (vst a) = false) : vnar a = vall ∧ vnok a = false := by
  have h : vnok a = false := by unfold vnok; rcases h with h | h | h | h | h <;> rw [h] <;> simp
  exact ⟨if_neg (by rw [h]; simp), h⟩
theorem vn_if (a : Sc) : (if vnok a = true then vnar a else vall) = vnar a := by
  cases h : vnok a
  · unfold vnar; rw [h]; simp
  · simp
def vjoin (a b : Sc) : Sc := if vmay a = true ∧ vmay b = true then vnar (sc (bjoin a.r b.r) (kjoin a.k b.k)) else vall
def bwid (x y : Rg) : Rg := ⟨if (x.ul == y.ul) = false ∧ decide (y.ul < x.ul) = true then 0 else x.ul, if (x.uh == y.uh) = false ∧ decide (x.uh < y.uh) = true then 18446744073709551615 else x.uh,
  if (x.sl == y.sl) = false ∧ decide (y.sl < x.sl) = true then -9223372036854775808 else x.sl, if (x.sh == y.sh) = false ∧ decide (x.sh < y.sh) = true then 9223372036854775807 else x.sh⟩
def vwid (a b : Sc) : Sc := if vmay a = true ∧ vmay b = true then vnar (sc (bwid a.r b.r) (kjoin a.k b.k)) else vall
def vlow (a : Sc) : Sc := vnar (sc (blow a.r) (kcut a.k 32))
def vbel (t : Int) : Sc := vnar (sc ⟨0, t, ball.sl, ball.sh⟩ ⟨0, t⟩)
def vcap (r : Rg) : Rg := if r.uh < 4294967296 then r else blow ball
def vhalf (op : Int) (a b : Sc) : Rg :=
  if op = 8 ∨ op = 12 then blow ball
  else if op = 6 ∨ op = 7 then (if vones b = true then vcap (bdo op a.r (vone (opI .and .u64 (vsingle b) 31)).r) else blow ball)
  else vcap (bdo op a.r b.r)
def vhf (op w : Int) (a b : Sc) : Sc := sc (vhalf op (vlow a) (vlow b)) (kdo op w (vlow a).k (vlow b).k)
def vdo (op w : Int) (a b : Sc) : Sc :=
  if okop op w = true ∧ vmay a = true ∧ vmay b = true then (if w = 64 then vnar (sc (bdo op a.r b.r) (kdo op 64 a.k b.k)) else if vnok (vhf op w a b) = true then vnar (vhf op w a b) else vbel 4294967295) else vall
def vgk (cc : Int) (a b : Sc) : Kn := if cc = 0 then kmeet a.k b.k else a.k
def vgs (cc : Int) (a b : Sc) : Sc := sc (bgiv cc a.r b.r) (vgk cc a b)
def vgok (cc : Int) (a b : Sc) : Bool := vmay a && (vmay b && (bgok cc a.r b.r && ((if cc = 0 then kmeets a.k b.k else true) && vnok (vgs cc a b))))
def vgiv (cc : Int) (a b : Sc) : Sc := if vgok cc a b = true then vnar (vgs cc a b) else vall
theorem vg_0 {cc : Int} {a b : Sc} (h0 : vmay a = true) (h1 : vmay b = true) (h2 : bgok cc a.r b.r = true) (h3 : (cc == 0) = true) (h4 : kmeets a.k b.k = true) :
    vgiv cc a b = vnar (sc (bgiv cc a.r b.r) (kmeet a.k b.k)) ∧ vgok cc a b = vnok (sc (bgiv cc a.r b.r) (kmeet a.k b.k)) := by
  obtain rfl := eqz h3
  have e : vgok 0 a b = vnok (sc (bgiv 0 a.r b.r) (kmeet a.k b.k)) := by unfold vgok; rw [h0, h1, h2, if_pos rfl, h4]; rfl
  refine ⟨?_, e⟩
  unfold vgiv
  rw [e]
  exact vn_if _
theorem vg_n {cc : Int} {a b : Sc} (h0 : vmay a = true) (h1 : vmay b = true) (h2 : bgok cc a.r b.r = true) (h3 : (cc == 0) = false) :
    vgiv cc a b = vnar (sc (bgiv cc a.r b.r) a.k) ∧ vgok cc a b = vnok (sc (bgiv cc a.r b.r) a.k) := by
  have h3 := nez h3
  have e : vgok cc a b = vnok (sc (bgiv cc a.r b.r) a.k) := by unfold vgok vgs vgk; rw [h0, h1, h2, if_neg h3, if_neg h3]; rfl
  refine ⟨?_, e⟩
  unfold vgiv
  rw [e]
  unfold vgs vgk
  rw [if_neg h3]
  exact vn_if _
theorem vg_f {cc : Int} {a b : Sc} (h : vmay a = false ∨ vmay b = false ∨ bgok cc a.r b.r = false ∨ ((cc == 0) = true ∧ kmeets a.k b.k = false)) : vgiv cc a b = vall ∧ vgok cc a b = false := by
  have h : vgok cc a b = false := by
    unfold vgok
    rcases h with h | h | h | ⟨h, h'⟩
    · rw [h]; simp
    · rw [h]; simp
    · rw [h]; simp
    · rw [if_pos (eqz h), h']; simp
  exact ⟨if_neg (by rw [h]; simp), h⟩
def okcc (cc l : Int) : Bool := (decide (0 ≤ cc) && decide (cc ≤ 10)) && zlong l
theorem ok_of {b : Bool} (h : ((if b = true then (0 : Int) else 2) == 0) = true) : b = true := by cases b <;> simp_all
theorem nok_of {b : Bool} (h : ((if b = true then (0 : Int) else 2) == 0) = false) : b = false := by cases b <;> simp_all
theorem agg_Kn {r s : Kn} (h : r = s) : [Dt.z r.v, .z r.m] = [Dt.z s.v, .z s.m] := by rw [h]
theorem kcom_t {r : Rg} (hr : r.wf) : (⟨bits .andNot .u64 r.ul (opI .sub .u64 (opI .shl .u64 1 (opI .sub .i64 64 (64 - (blenN (bits .xor .u64 r.ul r.uh).toNat : Int)))) 1), opI .sub .u64 (opI .shl .u64 1 (opI .sub .i64 64 (64 - (blenN (bits .xor .u64 r.ul r.uh).toNat : Int)))) 1⟩ : Kn) = kcom r := by
  have hx := xor_bd r.ul r.uh
  have hb : blenN (bits .xor .u64 r.ul r.uh).toNat ≤ 64 := blen_le (by omega)
  have e : opI .sub .i64 64 (64 - (blenN (bits .xor .u64 r.ul r.uh).toNat : Int)) = (blenN (bits .xor .u64 r.ul r.uh).toNat : Int) := by
    show IntKind.i64.wrap _ = _
    rw [w_i64]; omega
  rw [e, fill_eq hx.1 hx.2]
  rfl
theorem kcom_f {r : Rg} (hr : r.wf) (h : decide (0 < 64 - (blenN (bits .xor .u64 r.ul r.uh).toNat : Int)) = false) : (⟨bits .andNot .u64 r.ul 18446744073709551615, 18446744073709551615⟩ : Kn) = kcom r := by
  have h := of_decide_eq_false h
  have hx := xor_bd r.ul r.uh
  have hb : blenN (bits .xor .u64 r.ul r.uh).toNat ≤ 64 := blen_le (by omega)
  have e : bfill (bits .xor .u64 r.ul r.uh) = 18446744073709551615 := by
    unfold bfill
    rw [show blenN (bits .xor .u64 r.ul r.uh).toNat = 64 by omega]
    rfl
  unfold kcom kmask
  rw [e]
/-! ### Do of known bits, way by way -/
section
variable {op l : Int} {a b : Kn}
theorem kd_bad (h : kgood op l a b = false) : kall = kdo op l a b := by
  unfold kdo; rw [if_neg (by rw [h]; simp)]
theorem kd_a (h : kmay a = false) : kgood op l a b = false := by simp [kgood, h]
theorem kd_b (h : kmay b = false) : kgood op l a b = false := by simp [kgood, h]
theorem kd_lo (h : decide (op < 0) = true) : kgood op l a b = false := by
  have := of_decide_eq_true h
  simp [kgood, decide_eq_false (show ¬ 0 ≤ op by omega)]
theorem kd_hi (h : decide (12 < op) = true) : kgood op l a b = false := by
  have := of_decide_eq_true h
  simp [kgood, decide_eq_false (show ¬ op ≤ 12 by omega)]
theorem kd_w (h : (l == 32) = false) (h' : (l == 64) = false) : kgood op l a b = false := by simp [kgood, zlong, h, h']
theorem kd_ok (h0 : kmay a = true) (h1 : kmay b = true) (h2 : decide (op < 0) = false) (h3 : decide (12 < op) = false) (h4 : zlong l = true) : kgood op l a b = true ∧ okop op l = true := by
  have h2 := of_decide_eq_false h2
  have h3 := of_decide_eq_false h3
  simp [kgood, okop, h0, h1, h4, decide_eq_true (show 0 ≤ op by omega), decide_eq_true (show op ≤ 12 by omega)]
theorem kd_one (hg : kgood op l a b = true ∧ okop op l = true) (h : (bits .or .u64 (kcut a l).m (kcut b l).m == 0) = true) : kone (if okop op l = true then zdo op l (kcut a l).v (kcut b l).v else 0) = kdo op l a b := by
  unfold kdo; rw [if_pos hg.1, if_pos h, if_pos hg.2]
theorem kd_op {X : Kn} (hg : kgood op l a b = true ∧ okop op l = true) (h : (bits .or .u64 (kcut a l).m (kcut b l).m == 0) = false) (e : kop op l (kcut a l) (kcut b l) = X) : kcut X l = kdo op l a b := by
  unfold kdo; rw [if_pos hg.1, if_neg (by rw [h]; simp), e]
theorem kop_y (h : op = 6 ∨ op = 7 ∨ op = 12) (c : (bits .and .u64 b.m (l - 1) == 0) = true) : kop op l a b = kshift op l a b := by
  unfold kop; rcases h with rfl | rfl | rfl <;> simp [c]
theorem kop_n (h : op = 6 ∨ op = 7 ∨ op = 12) (c : (bits .and .u64 b.m (l - 1) == 0) = false) : kop op l a b = kall := by
  unfold kop; rcases h with rfl | rfl | rfl <;> simp [c]
end
end Go.Proofs.YtcfnglbcgkappaaGreat
