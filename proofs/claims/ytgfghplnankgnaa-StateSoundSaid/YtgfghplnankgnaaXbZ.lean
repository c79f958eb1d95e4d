/- Texts XbC, XbD, XbG, XbE, Vd in one. -/
import Derived.Test.YtgfghplnankgnaaXbL
import Derived.Test.YtgfghplnankgnaaKxZ
import Derived.Test.YtgfghplnankgnaaProg
import Derived.Laws.Externs
/- Contracts of sum and Do of package bounds, by the symbolic run. -/
set_option linter.unusedVariables false
set_option linter.unusedSimpArgs false
namespace Go.Proofs.Ytgfghplnankgnaa
open Go.RowKit Go.ChangeShapes Go.WideShapes

theorem i64_inK {x : Int} (h : -9223372036854775808 ≤ x ∧ x ≤ 9223372036854775807) : inK .i64 x = true := by
  rw [inK_iff]; simpa [IntKind.min, IntKind.max, IntKind.signed, IntKind.bits] using h
def sM_lz (key : Nat) : Sm := ⟨68, key, [.one (.int .u64)], [.one (.int .i64)], false⟩
def sV_lz (x : Int) : List Dt := [.z (64 - (blenN x.toNat : Int))]
def sF_lz : List Dt → List Dt
  | [.z x0] => sV_lz x0
  | _ => []
theorem sX_lz (x : Int) (hx : inK .u64 x = true) : (∀ w, Calls Try.prog 68 #[.int .u64 x] w fun e w' => e = .returned (.int .i64 (64 - (blenN x.toNat : Int))) ∧ Ext w w') ∧ valIn (.int .i64 (64 - (blenN x.toNat : Int))) = true := by
  have g := inK_u64 hx
  have hb : blenN x.toNat ≤ 64 := blen_le (by omega)
  have h : inK .i64 (64 - (blenN x.toNat : Int)) = true := i64_inK (by omega)
  exact ⟨fun w => b_lz x g.1 g.2 w w (Ext.refl w), h⟩
theorem sK_lz {sp : Spec} {key : Nat} (hF : sp.F key = sF_lz) : SmOk Try.prog sp (sM_lz key) := by
  refine SmOk.pure hF rfl rfl fun xs vals w h => ?_
  obtain ⟨_, _, _, rfl, ⟨x0, rfl, rfl, gx0⟩, h⟩ := h
  obtain ⟨rfl, rfl⟩ := h
  have q := sX_lz x0 gx0
  refine ⟨_, .inr ⟨run_enter Try.func68 (by kernel_rfl) (by kernel_rfl) _ w, q.1 w⟩, ?_, fun ρ v0 nid j he => ?_⟩
  · have q2 := q.2
    simp [valIn, partIn, cellIn] at q2
    simp [sM_lz, sF_lz, sV_lz, List.flatMap_cons, List.flatMap_nil, Sh.cks, List.append_nil, List.cons_append, List.nil_append, b2i_one, resIn, q2]
  · simp only [sM_lz, sF_lz, sV_lz, List.flatMap_cons, List.flatMap_nil, Sh.cks, List.append_nil, List.cons_append, List.nil_append, b2i_one, eqs, dI, dB, List.getElem?_cons_zero, List.getElem?_cons_succ, Nat.zero_add, Nat.add_zero, Nat.reduceAdd, and_true] at he
    simp [sM_lz, sF_lz, sV_lz, List.flatMap_cons, List.flatMap_nil, Sh.cks, List.append_nil, List.cons_append, List.nil_append, b2i_one, resVof, resParts, resCells, V.den, C.den, denL, den0, den0L, E.I, E.B, he]
end Go.Proofs.Ytgfghplnankgnaa


/- Contract of Do of package bounds, by the symbolic run. -/
set_option linter.unusedVariables false
set_option linter.unusedSimpArgs false
namespace Go.Proofs.Ytgfghplnankgnaa
open Go.RowKit Go.ChangeShapes Go.WideShapes

end Go.Proofs.Ytgfghplnankgnaa


/- What each condition of Given of package bounds comes to, as its run has it: plain laws. -/
set_option linter.unusedSectionVars false
set_option linter.unusedVariables false
set_option linter.unusedSimpArgs false
namespace Go.Proofs.Ytgfghplnankgnaa
open Go Go.RowKit
section
variable {a b : Rg} (ha : a.ok) (hb : b.ok)
include ha hb
end
end Go.Proofs.Ytgfghplnankgnaa


/- Contracts of Given of package bounds and of what it takes, by the symbolic run. -/
set_option linter.unusedVariables false
set_option linter.unusedSimpArgs false
namespace Go.Proofs.Ytgfghplnankgnaa
open Go.RowKit Go.ChangeShapes Go.WideShapes

end Go.Proofs.Ytgfghplnankgnaa


/- Scalars: what the functions of package value come to. Plain definitions. -/
set_option linter.unusedVariables false
set_option linter.unusedSimpArgs false
namespace Go.Proofs.Ytgfghplnankgnaa
open Go Go.RowKit
structure Sc where
  ul : Int
  uh : Int
  sl : Int
  sh : Int
  v : Int
  m : Int
def Sc.r (a : Sc) : Rg := ⟨a.ul, a.uh, a.sl, a.sh⟩
def Sc.k (a : Sc) : Kn := ⟨a.v, a.m⟩
def sc (r : Rg) (k : Kn) : Sc := ⟨r.ul, r.uh, r.sl, r.sh, k.v, k.m⟩
theorem Sc.eta_r (a : Sc) : (⟨a.ul, a.uh, a.sl, a.sh⟩ : Rg) = a.r := rfl
theorem Sc.eta_k (a : Sc) : (⟨a.v, a.m⟩ : Kn) = a.k := rfl
theorem Sc.eta_2 (r : Rg) (k : Kn) : (⟨r.ul, r.uh, r.sl, r.sh, k.v, k.m⟩ : Sc) = sc r k := rfl
def vmay (a : Sc) : Bool := bmay a.r && kmay a.k
def vall : Sc := sc ball kall
def vone (v : Int) : Sc := sc (bone v) (kone v)
def vhas (a : Sc) (x : Int) : Bool := vmay a && (bhas a.r x && khas a.k x)
def kcom (r : Rg) : Kn := kmask r.ul (bfill (bits .xor .u64 r.ul r.uh))
def vlo (k : Kn) : Rg := ⟨k.v, bits .or .u64 k.v k.m, ball.sl, ball.sh⟩
def vs1 (a : Sc) : Bool := bmeets a.r (vlo a.k)
def vs2 (a : Sc) : Bool := kmeets a.k (kcom (bmeet a.r (vlo a.k)))
def vst (a : Sc) : Sc := sc (bmeet a.r (vlo a.k)) (kmeet a.k (kcom (bmeet a.r (vlo a.k))))
def vnok (a : Sc) : Bool := vmay a && (vs1 a && (vs2 a && (vs1 (vst a) && vs2 (vst a))))
def vnar (a : Sc) : Sc := if vnok a = true then vst (vst a) else vall
theorem vn_t {a : Sc} (h0 : vmay a = true) (h1 : vs1 a = true) (h2 : vs2 a = true) (h3 : vs1 (vst a) = true) (h4 : vs2 (vst a) = true) : vnar a = vst (vst a) ∧ vnok a = true := by
  have h : vnok a = true := by unfold vnok; rw [h0, h1, h2, h3, h4]; rfl
  exact ⟨if_pos h, h⟩
theorem vn_f {a : Sc} (h : vmay a = false ∨ vs1 a = false ∨ vs2 a = false ∨ vs1 (vst a) = false ∨ vs2 (vst a) = false) : vnar a = vall ∧ vnok a = false := by
  have h : vnok a = false := by unfold vnok; rcases h with h | h | h | h | h <;> rw [h] <;> simp
  exact ⟨if_neg (by rw [h]; simp), h⟩
def vjoin (a b : Sc) : Sc := if vmay a = true ∧ vmay b = true then vnar (sc (bjoin a.r b.r) (kjoin a.k b.k)) else vall
def bwid (x y : Rg) : Rg := ⟨if (x.ul == y.ul) = false ∧ decide (y.ul < x.ul) = true then 0 else x.ul, if (x.uh == y.uh) = false ∧ decide (x.uh < y.uh) = true then 18446744073709551615 else x.uh,
  if (x.sl == y.sl) = false ∧ decide (y.sl < x.sl) = true then -9223372036854775808 else x.sl, if (x.sh == y.sh) = false ∧ decide (x.sh < y.sh) = true then 9223372036854775807 else x.sh⟩
def vwid (a b : Sc) : Sc := if vmay a = true ∧ vmay b = true then vnar (sc (bwid a.r b.r) (kjoin a.k b.k)) else vall
def vbel (t : Int) : Sc := vnar (sc ⟨0, t, ball.sl, ball.sh⟩ ⟨0, t⟩)
theorem agg_Kn {r s : Kn} (h : r = s) : [Dt.z r.v, .z r.m] = [Dt.z s.v, .z s.m] := by rw [h]
theorem kcom_t {r : Rg} (hr : r.wf) : (⟨bits .andNot .u64 r.ul (opI .sub .u64 (opI .shl .u64 1 (opI .sub .i64 64 (64 - (blenN (bits .xor .u64 r.ul r.uh).toNat : Int)))) 1), opI .sub .u64 (opI .shl .u64 1 (opI .sub .i64 64 (64 - (blenN (bits .xor .u64 r.ul r.uh).toNat : Int)))) 1⟩ : Kn) = kcom r := by
  have hx := xor_bd r.ul r.uh
  have hb : blenN (bits .xor .u64 r.ul r.uh).toNat ≤ 64 := blen_le (by omega)
  have e : opI .sub .i64 64 (64 - (blenN (bits .xor .u64 r.ul r.uh).toNat : Int)) = (blenN (bits .xor .u64 r.ul r.uh).toNat : Int) := by
    show IntKind.i64.wrap _ = _
    rw [w_i64]; omega
  rw [e, fill_eq hx.1 hx.2]
  rfl
theorem kcom_f {r : Rg} (hr : r.wf) (h : decide (0 < 64 - (blenN (bits .xor .u64 r.ul r.uh).toNat : Int)) = false) : (⟨bits .andNot .u64 r.ul 18446744073709551615, 18446744073709551615⟩ : Kn) = kcom r := by
  have h := of_decide_eq_false h
  have hx := xor_bd r.ul r.uh
  have hb : blenN (bits .xor .u64 r.ul r.uh).toNat ≤ 64 := blen_le (by omega)
  have e : bfill (bits .xor .u64 r.ul r.uh) = 18446744073709551615 := by
    unfold bfill
    rw [show blenN (bits .xor .u64 r.ul r.uh).toNat = 64 by omega]
    rfl
  unfold kcom kmask
  rw [e]
/-! ### Do of known bits, way by way -/
section
variable {op l : Int} {a b : Kn}
end
end Go.Proofs.Ytgfghplnankgnaa

