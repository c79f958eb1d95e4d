/- The law StateTells, by the symbolic run. -/
import Derived.Test.YtcfnglbcgkappaaSdI
import Derived.Test.YtcfnglbcgkappaaSdH
import Derived.Test.YtcfnglbcgkappaaSyR
import Derived.Test.YtcfnglbcgkappaaProg
import Derived.Laws.Externs
set_option linter.unusedVariables false
set_option linter.unusedSimpArgs false
namespace Go.Proofs.Ytcfnglbcgkappaa
open Go.RowKit Go.ChangeShapes Go.WideShapes

def z_Sta : List C := repC z_Ty 11 ++ (repC z_Ty 8 ++ [])
theorem grd_Sta : Try.prog.eqGuardType Try.prog.depth 35 = false := by kernel_rfl
set_option maxRecDepth 100000 in
theorem klA11 : Kl Try.prog 7 32 (repC z_Ty 11) := Kl.array (d := 6) (fun vs hv => kl_Ty vs hv) Try.underlying32 (by kernel_rfl) (by kernel_rfl)
set_option maxRecDepth 100000 in
theorem klA8 : Kl Try.prog 7 33 (repC z_Ty 8) := Kl.array (d := 6) (fun vs hv => kl_Ty vs hv) Try.underlying33 (by kernel_rfl) (by kernel_rfl)
set_option maxRecDepth 100000 in
theorem kl_Sta : Kl Try.prog 8 35 z_Sta := Kl.struct (KlSeq.cons klA11 (by rfl) (by kernel_rfl) (KlSeq.cons klA8 (by rfl) (by kernel_rfl) (KlSeq.nil _ _ _))) Try.underlying35 (by kernel_rfl) (by kernel_rfl)
set_option maxRecDepth 100000 in
theorem fm_Sta (vs : List Value) (hv : kindsV vs z_Sta) : (Value.agg vs.toArray).formed Try.prog 35 = true := formed_of Try.underlying35 (by kernel_rfl) vs hv
set_option maxRecDepth 100000 in
theorem eq_Sta (vs us : List Value) (hv : kindsV vs z_Sta) (hu : kindsV us z_Sta) (w : World) : (Op.equal 35 (.agg vs.toArray) (.agg us.toArray)).run Try.prog w = .ok (eqVs vs us) w :=
  eq_of_keys (by kernel_rfl) fm_Sta 8 (fun vs hv => kl_Sta vs hv) vs us hv hu w
def tys_SdJ : List (Nat × TI) := [(2, ⟨false, 1, [.int .i64 (.lit 0)], [], none, some .i64, false, false, none, 8, false⟩),
 (3, ⟨false, 1, [.int .i64 (.lit 0)], [], none, some .i64, false, false, none, 8, false⟩),
 (4, ⟨false, 1, [.bool (.tt false)], [], none, none, false, true, none, 1, false⟩),
 (5, ⟨false, 1, [.int .u8 (.lit 0)], [], none, some .u8, false, false, none, 1, false⟩),
 (22, ⟨false, 1, [.int .i8 (.lit 0)], [], none, some .i8, false, false, none, 1, false⟩),
 (23, ⟨false, 1, [.int .u64 (.lit 0)], [], none, some .u64, false, false, none, 8, false⟩),
 (25, ⟨true, 4, [.int .u64 (.lit 0), .int .u64 (.lit 0), .int .i64 (.lit 0), .int .i64 (.lit 0)], [(0, 23), (1, 23), (2, 2), (3, 2)], none, none, false, false, none, 32, false⟩),
 (27, ⟨true, 2, [.int .u64 (.lit 0), .int .u64 (.lit 0)], [(0, 23), (1, 23)], none, none, false, false, none, 16, false⟩),
 (29, ⟨true, 6, [.int .u64 (.lit 0), .int .u64 (.lit 0), .int .i64 (.lit 0), .int .i64 (.lit 0), .int .u64 (.lit 0), .int .u64 (.lit 0)], [(0, 25), (4, 27)], none, none, true, false, none, 48, false⟩),
 (31, ⟨true, 9, [.int .i8 (.lit 0), .int .u64 (.lit 0), .int .u64 (.lit 0), .int .i64 (.lit 0), .int .i64 (.lit 0), .int .u64 (.lit 0), .int .u64 (.lit 0), .int .i64 (.lit 0), .int .i64 (.lit 0)], [(0, 22), (1, 29), (7, 3), (8, 3)], none, none, true, false, none, 72, false⟩),
 (32, ⟨true, 99, [.int .i8 (.lit 0), .int .u64 (.lit 0), .int .u64 (.lit 0), .int .i64 (.lit 0), .int .i64 (.lit 0), .int .u64 (.lit 0), .int .u64 (.lit 0), .int .i64 (.lit 0), .int .i64 (.lit 0), .int .i8 (.lit 0), .int .u64 (.lit 0), .int .u64 (.lit 0), .int .i64 (.lit 0), .int .i64 (.lit 0), .int .u64 (.lit 0), .int .u64 (.lit 0), .int .i64 (.lit 0), .int .i64 (.lit 0), .int .i8 (.lit 0), .int .u64 (.lit 0), .int .u64 (.lit 0), .int .i64 (.lit 0), .int .i64 (.lit 0), .int .u64 (.lit 0), .int .u64 (.lit 0), .int .i64 (.lit 0), .int .i64 (.lit 0), .int .i8 (.lit 0), .int .u64 (.lit 0), .int .u64 (.lit 0), .int .i64 (.lit 0), .int .i64 (.lit 0), .int .u64 (.lit 0), .int .u64 (.lit 0), .int .i64 (.lit 0), .int .i64 (.lit 0), .int .i8 (.lit 0), .int .u64 (.lit 0), .int .u64 (.lit 0), .int .i64 (.lit 0), .int .i64 (.lit 0), .int .u64 (.lit 0), .int .u64 (.lit 0), .int .i64 (.lit 0), .int .i64 (.lit 0), .int .i8 (.lit 0), .int .u64 (.lit 0), .int .u64 (.lit 0), .int .i64 (.lit 0), .int .i64 (.lit 0), .int .u64 (.lit 0), .int .u64 (.lit 0), .int .i64 (.lit 0), .int .i64 (.lit 0), .int .i8 (.lit 0), .int .u64 (.lit 0), .int .u64 (.lit 0), .int .i64 (.lit 0), .int .i64 (.lit 0), .int .u64 (.lit 0), .int .u64 (.lit 0), .int .i64 (.lit 0), .int .i64 (.lit 0), .int .i8 (.lit 0), .int .u64 (.lit 0), .int .u64 (.lit 0), .int .i64 (.lit 0), .int .i64 (.lit 0), .int .u64 (.lit 0), .int .u64 (.lit 0), .int .i64 (.lit 0), .int .i64 (.lit 0), .int .i8 (.lit 0), .int .u64 (.lit 0), .int .u64 (.lit 0), .int .i64 (.lit 0), .int .i64 (.lit 0), .int .u64 (.lit 0), .int .u64 (.lit 0), .int .i64 (.lit 0), .int .i64 (.lit 0), .int .i8 (.lit 0), .int .u64 (.lit 0), .int .u64 (.lit 0), .int .i64 (.lit 0), .int .i64 (.lit 0), .int .u64 (.lit 0), .int .u64 (.lit 0), .int .i64 (.lit 0), .int .i64 (.lit 0), .int .i8 (.lit 0), .int .u64 (.lit 0), .int .u64 (.lit 0), .int .i64 (.lit 0), .int .i64 (.lit 0), .int .u64 (.lit 0), .int .u64 (.lit 0), .int .i64 (.lit 0), .int .i64 (.lit 0)], [], some (11, 31), none, false, false, none, 792, false⟩),
 (33, ⟨true, 72, [.int .i8 (.lit 0), .int .u64 (.lit 0), .int .u64 (.lit 0), .int .i64 (.lit 0), .int .i64 (.lit 0), .int .u64 (.lit 0), .int .u64 (.lit 0), .int .i64 (.lit 0), .int .i64 (.lit 0), .int .i8 (.lit 0), .int .u64 (.lit 0), .int .u64 (.lit 0), .int .i64 (.lit 0), .int .i64 (.lit 0), .int .u64 (.lit 0), .int .u64 (.lit 0), .int .i64 (.lit 0), .int .i64 (.lit 0), .int .i8 (.lit 0), .int .u64 (.lit 0), .int .u64 (.lit 0), .int .i64 (.lit 0), .int .i64 (.lit 0), .int .u64 (.lit 0), .int .u64 (.lit 0), .int .i64 (.lit 0), .int .i64 (.lit 0), .int .i8 (.lit 0), .int .u64 (.lit 0), .int .u64 (.lit 0), .int .i64 (.lit 0), .int .i64 (.lit 0), .int .u64 (.lit 0), .int .u64 (.lit 0), .int .i64 (.lit 0), .int .i64 (.lit 0), .int .i8 (.lit 0), .int .u64 (.lit 0), .int .u64 (.lit 0), .int .i64 (.lit 0), .int .i64 (.lit 0), .int .u64 (.lit 0), .int .u64 (.lit 0), .int .i64 (.lit 0), .int .i64 (.lit 0), .int .i8 (.lit 0), .int .u64 (.lit 0), .int .u64 (.lit 0), .int .i64 (.lit 0), .int .i64 (.lit 0), .int .u64 (.lit 0), .int .u64 (.lit 0), .int .i64 (.lit 0), .int .i64 (.lit 0), .int .i8 (.lit 0), .int .u64 (.lit 0), .int .u64 (.lit 0), .int .i64 (.lit 0), .int .i64 (.lit 0), .int .u64 (.lit 0), .int .u64 (.lit 0), .int .i64 (.lit 0), .int .i64 (.lit 0), .int .i8 (.lit 0), .int .u64 (.lit 0), .int .u64 (.lit 0), .int .i64 (.lit 0), .int .i64 (.lit 0), .int .u64 (.lit 0), .int .u64 (.lit 0), .int .i64 (.lit 0), .int .i64 (.lit 0)], [], some (8, 31), none, false, false, none, 576, false⟩),
 (35, ⟨true, 171, [.int .i8 (.lit 0), .int .u64 (.lit 0), .int .u64 (.lit 0), .int .i64 (.lit 0), .int .i64 (.lit 0), .int .u64 (.lit 0), .int .u64 (.lit 0), .int .i64 (.lit 0), .int .i64 (.lit 0), .int .i8 (.lit 0), .int .u64 (.lit 0), .int .u64 (.lit 0), .int .i64 (.lit 0), .int .i64 (.lit 0), .int .u64 (.lit 0), .int .u64 (.lit 0), .int .i64 (.lit 0), .int .i64 (.lit 0), .int .i8 (.lit 0), .int .u64 (.lit 0), .int .u64 (.lit 0), .int .i64 (.lit 0), .int .i64 (.lit 0), .int .u64 (.lit 0), .int .u64 (.lit 0), .int .i64 (.lit 0), .int .i64 (.lit 0), .int .i8 (.lit 0), .int .u64 (.lit 0), .int .u64 (.lit 0), .int .i64 (.lit 0), .int .i64 (.lit 0), .int .u64 (.lit 0), .int .u64 (.lit 0), .int .i64 (.lit 0), .int .i64 (.lit 0), .int .i8 (.lit 0), .int .u64 (.lit 0), .int .u64 (.lit 0), .int .i64 (.lit 0), .int .i64 (.lit 0), .int .u64 (.lit 0), .int .u64 (.lit 0), .int .i64 (.lit 0), .int .i64 (.lit 0), .int .i8 (.lit 0), .int .u64 (.lit 0), .int .u64 (.lit 0), .int .i64 (.lit 0), .int .i64 (.lit 0), .int .u64 (.lit 0), .int .u64 (.lit 0), .int .i64 (.lit 0), .int .i64 (.lit 0), .int .i8 (.lit 0), .int .u64 (.lit 0), .int .u64 (.lit 0), .int .i64 (.lit 0), .int .i64 (.lit 0), .int .u64 (.lit 0), .int .u64 (.lit 0), .int .i64 (.lit 0), .int .i64 (.lit 0), .int .i8 (.lit 0), .int .u64 (.lit 0), .int .u64 (.lit 0), .int .i64 (.lit 0), .int .i64 (.lit 0), .int .u64 (.lit 0), .int .u64 (.lit 0), .int .i64 (.lit 0), .int .i64 (.lit 0), .int .i8 (.lit 0), .int .u64 (.lit 0), .int .u64 (.lit 0), .int .i64 (.lit 0), .int .i64 (.lit 0), .int .u64 (.lit 0), .int .u64 (.lit 0), .int .i64 (.lit 0), .int .i64 (.lit 0), .int .i8 (.lit 0), .int .u64 (.lit 0), .int .u64 (.lit 0), .int .i64 (.lit 0), .int .i64 (.lit 0), .int .u64 (.lit 0), .int .u64 (.lit 0), .int .i64 (.lit 0), .int .i64 (.lit 0), .int .i8 (.lit 0), .int .u64 (.lit 0), .int .u64 (.lit 0), .int .i64 (.lit 0), .int .i64 (.lit 0), .int .u64 (.lit 0), .int .u64 (.lit 0), .int .i64 (.lit 0), .int .i64 (.lit 0), .int .i8 (.lit 0), .int .u64 (.lit 0), .int .u64 (.lit 0), .int .i64 (.lit 0), .int .i64 (.lit 0), .int .u64 (.lit 0), .int .u64 (.lit 0), .int .i64 (.lit 0), .int .i64 (.lit 0), .int .i8 (.lit 0), .int .u64 (.lit 0), .int .u64 (.lit 0), .int .i64 (.lit 0), .int .i64 (.lit 0), .int .u64 (.lit 0), .int .u64 (.lit 0), .int .i64 (.lit 0), .int .i64 (.lit 0), .int .i8 (.lit 0), .int .u64 (.lit 0), .int .u64 (.lit 0), .int .i64 (.lit 0), .int .i64 (.lit 0), .int .u64 (.lit 0), .int .u64 (.lit 0), .int .i64 (.lit 0), .int .i64 (.lit 0), .int .i8 (.lit 0), .int .u64 (.lit 0), .int .u64 (.lit 0), .int .i64 (.lit 0), .int .i64 (.lit 0), .int .u64 (.lit 0), .int .u64 (.lit 0), .int .i64 (.lit 0), .int .i64 (.lit 0), .int .i8 (.lit 0), .int .u64 (.lit 0), .int .u64 (.lit 0), .int .i64 (.lit 0), .int .i64 (.lit 0), .int .u64 (.lit 0), .int .u64 (.lit 0), .int .i64 (.lit 0), .int .i64 (.lit 0), .int .i8 (.lit 0), .int .u64 (.lit 0), .int .u64 (.lit 0), .int .i64 (.lit 0), .int .i64 (.lit 0), .int .u64 (.lit 0), .int .u64 (.lit 0), .int .i64 (.lit 0), .int .i64 (.lit 0), .int .i8 (.lit 0), .int .u64 (.lit 0), .int .u64 (.lit 0), .int .i64 (.lit 0), .int .i64 (.lit 0), .int .u64 (.lit 0), .int .u64 (.lit 0), .int .i64 (.lit 0), .int .i64 (.lit 0), .int .i8 (.lit 0), .int .u64 (.lit 0), .int .u64 (.lit 0), .int .i64 (.lit 0), .int .i64 (.lit 0), .int .u64 (.lit 0), .int .u64 (.lit 0), .int .i64 (.lit 0), .int .i64 (.lit 0)], [(0, 32), (99, 33)], none, none, true, false, none, 1368, false⟩),
 (36, ⟨false, 1, [.int .i64 (.lit 0)], [], none, some .i64, false, false, none, 8, false⟩),
 (41, ⟨true, 11, [.int .u64 (.lit 0), .int .u64 (.lit 0), .int .u64 (.lit 0), .int .u64 (.lit 0), .int .u64 (.lit 0), .int .u64 (.lit 0), .int .u64 (.lit 0), .int .u64 (.lit 0), .int .u64 (.lit 0), .int .u64 (.lit 0), .int .u64 (.lit 0)], [], some (11, 23), none, false, false, none, 88, false⟩),
 (42, ⟨true, 64, [.int .u8 (.lit 0), .int .u8 (.lit 0), .int .u8 (.lit 0), .int .u8 (.lit 0), .int .u8 (.lit 0), .int .u8 (.lit 0), .int .u8 (.lit 0), .int .u8 (.lit 0), .int .u8 (.lit 0), .int .u8 (.lit 0), .int .u8 (.lit 0), .int .u8 (.lit 0), .int .u8 (.lit 0), .int .u8 (.lit 0), .int .u8 (.lit 0), .int .u8 (.lit 0), .int .u8 (.lit 0), .int .u8 (.lit 0), .int .u8 (.lit 0), .int .u8 (.lit 0), .int .u8 (.lit 0), .int .u8 (.lit 0), .int .u8 (.lit 0), .int .u8 (.lit 0), .int .u8 (.lit 0), .int .u8 (.lit 0), .int .u8 (.lit 0), .int .u8 (.lit 0), .int .u8 (.lit 0), .int .u8 (.lit 0), .int .u8 (.lit 0), .int .u8 (.lit 0), .int .u8 (.lit 0), .int .u8 (.lit 0), .int .u8 (.lit 0), .int .u8 (.lit 0), .int .u8 (.lit 0), .int .u8 (.lit 0), .int .u8 (.lit 0), .int .u8 (.lit 0), .int .u8 (.lit 0), .int .u8 (.lit 0), .int .u8 (.lit 0), .int .u8 (.lit 0), .int .u8 (.lit 0), .int .u8 (.lit 0), .int .u8 (.lit 0), .int .u8 (.lit 0), .int .u8 (.lit 0), .int .u8 (.lit 0), .int .u8 (.lit 0), .int .u8 (.lit 0), .int .u8 (.lit 0), .int .u8 (.lit 0), .int .u8 (.lit 0), .int .u8 (.lit 0), .int .u8 (.lit 0), .int .u8 (.lit 0), .int .u8 (.lit 0), .int .u8 (.lit 0), .int .u8 (.lit 0), .int .u8 (.lit 0), .int .u8 (.lit 0), .int .u8 (.lit 0)], [], some (64, 5), none, false, false, none, 64, false⟩),
 (44, ⟨true, 76, [.int .u64 (.lit 0), .int .u64 (.lit 0), .int .u64 (.lit 0), .int .u64 (.lit 0), .int .u64 (.lit 0), .int .u64 (.lit 0), .int .u64 (.lit 0), .int .u64 (.lit 0), .int .u64 (.lit 0), .int .u64 (.lit 0), .int .u64 (.lit 0), .int .i64 (.lit 0), .int .u8 (.lit 0), .int .u8 (.lit 0), .int .u8 (.lit 0), .int .u8 (.lit 0), .int .u8 (.lit 0), .int .u8 (.lit 0), .int .u8 (.lit 0), .int .u8 (.lit 0), .int .u8 (.lit 0), .int .u8 (.lit 0), .int .u8 (.lit 0), .int .u8 (.lit 0), .int .u8 (.lit 0), .int .u8 (.lit 0), .int .u8 (.lit 0), .int .u8 (.lit 0), .int .u8 (.lit 0), .int .u8 (.lit 0), .int .u8 (.lit 0), .int .u8 (.lit 0), .int .u8 (.lit 0), .int .u8 (.lit 0), .int .u8 (.lit 0), .int .u8 (.lit 0), .int .u8 (.lit 0), .int .u8 (.lit 0), .int .u8 (.lit 0), .int .u8 (.lit 0), .int .u8 (.lit 0), .int .u8 (.lit 0), .int .u8 (.lit 0), .int .u8 (.lit 0), .int .u8 (.lit 0), .int .u8 (.lit 0), .int .u8 (.lit 0), .int .u8 (.lit 0), .int .u8 (.lit 0), .int .u8 (.lit 0), .int .u8 (.lit 0), .int .u8 (.lit 0), .int .u8 (.lit 0), .int .u8 (.lit 0), .int .u8 (.lit 0), .int .u8 (.lit 0), .int .u8 (.lit 0), .int .u8 (.lit 0), .int .u8 (.lit 0), .int .u8 (.lit 0), .int .u8 (.lit 0), .int .u8 (.lit 0), .int .u8 (.lit 0), .int .u8 (.lit 0), .int .u8 (.lit 0), .int .u8 (.lit 0), .int .u8 (.lit 0), .int .u8 (.lit 0), .int .u8 (.lit 0), .int .u8 (.lit 0), .int .u8 (.lit 0), .int .u8 (.lit 0), .int .u8 (.lit 0), .int .u8 (.lit 0), .int .u8 (.lit 0), .int .u8 (.lit 0)], [(0, 41), (11, 3), (12, 42)], none, none, false, false, none, 160, false⟩)]
set_option maxRecDepth 100000 in
theorem tysck_SdJ : (tys_SdJ.all fun p => ckTI Try.prog p.1 p.2) = true := by kernel_rfl
theorem tyseq_SdJ : (tys_SdJ.all fun p => !p.2.eqok || ((Nat.beq p.1 29 && kindsC p.2.zero z_Sc) || (Nat.beq p.1 31 && kindsC p.2.zero z_Ty) || (Nat.beq p.1 35 && kindsC p.2.zero z_Sta))) = true := by kernel_rfl
theorem tysok_SdJ : ∀ t i, (t, i) ∈ tys_SdJ → TIok Try.prog t i := by
  intro t i h
  have h1 := List.all_eq_true.1 tyseq_SdJ (t, i) h
  have h2 : i.eqok = true → (t = 29 ∧ kindsC i.zero z_Sc = true) ∨ (t = 31 ∧ kindsC i.zero z_Ty = true) ∨ (t = 35 ∧ kindsC i.zero z_Sta = true) := by
    intro he
    simp only [he, Bool.not_true, Bool.false_or, Bool.or_eq_true, Bool.and_eq_true] at h1
    rcases h1 with (h1 | h1) | h1
    · exact .inl ⟨Nat.eq_of_beq_eq_true h1.1, h1.2⟩
    · exact .inr (.inl ⟨Nat.eq_of_beq_eq_true h1.1, h1.2⟩)
    · exact .inr (.inr (⟨Nat.eq_of_beq_eq_true h1.1, h1.2⟩))
  refine TIok_of (all_at (f := ckTI Try.prog) tysck_SdJ h) (fun he => ?_) (fun he => ?_)
  · rcases h2 he with ⟨rfl, hs⟩ | ⟨rfl, hs⟩ | ⟨rfl, hs⟩
    · exact fun vs us hv hu => eq_Sc vs us (kindsV_of hs hv) (kindsV_of hs hu)
    · exact fun vs us hv hu => eq_Ty vs us (kindsV_of hs hv) (kindsV_of hs hu)
    · exact fun vs us hv hu => eq_Sta vs us (kindsV_of hs hv) (kindsV_of hs hu)
  · rcases h2 he with ⟨rfl, hs⟩ | ⟨rfl, hs⟩ | ⟨rfl, hs⟩
    · exact grd_Sc
    · exact grd_Ty
    · exact grd_Sta
def sV_stells (s : Sta) (t : Ty) (x : Snap) (v : Int) (lo : Int) (hi : Int) (size : Int) : List Dt := [.z (b2i true)]
def sF_stells : List Dt → List Dt := rd_Sta fun s => rd_Ty fun t => rd_Snap fun x => rdZ fun v => rdZ fun lo => rdZ fun hi => rdZ fun size => fun _ => sV_stells s t x v lo hi size
set_option maxRecDepth 100000 in
def sT_stells : Tr :=
(.call 0 (kTy ++ [.int .i64]) (.vs 0 171 (.vs 257 3 .nil)) 260
(.call 1 (kTy ++ [.int .i64]) (.vs 0 171 (.vs 257 3 .nil)) 270
(.call 2 (kSta ++ [.int .i64]) (.vs 0 171 (.vs 257 3 (.vs 171 9 .nil))) 280
(.call 3 (kSta ++ [.int .i64]) (.vs 0 171 (.vs 257 3 (.vs 171 9 .nil))) 452
(.br (.eq (.var 260) (.var 270))
(.br (.eq (.var 261) (.var 271))
(.br (.eq (.var 262) (.var 272))
(.br (.eq (.var 263) (.var 273))
(.br (.eq (.var 264) (.var 274))
(.br (.eq (.var 265) (.var 275))
(.br (.eq (.var 266) (.var 276))
(.br (.eq (.var 267) (.var 277))
(.br (.eq (.var 268) (.var 278))
(.br (.eq (.var 269) (.var 279))
(.br (.beq (.and (.eq (.var 280) (.var 452)) (.and (.eq (.var 281) (.var 453)) (.and (.eq (.var 282) (.var 454)) (.and (.eq (.var 283) (.var 455)) (.and (.eq (.var 284) (.var 456)) (.and (.eq (.var 285) (.var 457)) (.and (.eq (.var 286) (.var 458)) (.and (.eq (.var 287) (.var 459)) (.and (.eq (.var 288) (.var 460)) (.and (.eq (.var 289) (.var 461)) (.and (.eq (.var 290) (.var 462)) (.and (.eq (.var 291) (.var 463)) (.and (.eq (.var 292) (.var 464)) (.and (.eq (.var 293) (.var 465)) (.and (.eq (.var 294) (.var 466)) (.and (.eq (.var 295) (.var 467)) (.and (.eq (.var 296) (.var 468)) (.and (.eq (.var 297) (.var 469)) (.and (.eq (.var 298) (.var 470)) (.and (.eq (.var 299) (.var 471)) (.and (.eq (.var 300) (.var 472)) (.and (.eq (.var 301) (.var 473)) (.and (.eq (.var 302) (.var 474)) (.and (.eq (.var 303) (.var 475)) (.and (.eq (.var 304) (.var 476)) (.and (.eq (.var 305) (.var 477)) (.and (.eq (.var 306) (.var 478)) (.and (.eq (.var 307) (.var 479)) (.and (.eq (.var 308) (.var 480)) (.and (.eq (.var 309) (.var 481)) (.and (.eq (.var 310) (.var 482)) (.and (.eq (.var 311) (.var 483)) (.and (.eq (.var 312) (.var 484)) (.and (.eq (.var 313) (.var 485)) (.and (.eq (.var 314) (.var 486)) (.and (.eq (.var 315) (.var 487)) (.and (.eq (.var 316) (.var 488)) (.and (.eq (.var 317) (.var 489)) (.and (.eq (.var 318) (.var 490)) (.and (.eq (.var 319) (.var 491)) (.and (.eq (.var 320) (.var 492)) (.and (.eq (.var 321) (.var 493)) (.and (.eq (.var 322) (.var 494)) (.and (.eq (.var 323) (.var 495)) (.and (.eq (.var 324) (.var 496)) (.and (.eq (.var 325) (.var 497)) (.and (.eq (.var 326) (.var 498)) (.and (.eq (.var 327) (.var 499)) (.and (.eq (.var 328) (.var 500)) (.and (.eq (.var 329) (.var 501)) (.and (.eq (.var 330) (.var 502)) (.and (.eq (.var 331) (.var 503)) (.and (.eq (.var 332) (.var 504)) (.and (.eq (.var 333) (.var 505)) (.and (.eq (.var 334) (.var 506)) (.and (.eq (.var 335) (.var 507)) (.and (.eq (.var 336) (.var 508)) (.and (.eq (.var 337) (.var 509)) (.and (.eq (.var 338) (.var 510)) (.and (.eq (.var 339) (.var 511)) (.and (.eq (.var 340) (.var 512)) (.and (.eq (.var 341) (.var 513)) (.and (.eq (.var 342) (.var 514)) (.and (.eq (.var 343) (.var 515)) (.and (.eq (.var 344) (.var 516)) (.and (.eq (.var 345) (.var 517)) (.and (.eq (.var 346) (.var 518)) (.and (.eq (.var 347) (.var 519)) (.and (.eq (.var 348) (.var 520)) (.and (.eq (.var 349) (.var 521)) (.and (.eq (.var 350) (.var 522)) (.and (.eq (.var 351) (.var 523)) (.and (.eq (.var 352) (.var 524)) (.and (.eq (.var 353) (.var 525)) (.and (.eq (.var 354) (.var 526)) (.and (.eq (.var 355) (.var 527)) (.and (.eq (.var 356) (.var 528)) (.and (.eq (.var 357) (.var 529)) (.and (.eq (.var 358) (.var 530)) (.and (.eq (.var 359) (.var 531)) (.and (.eq (.var 360) (.var 532)) (.and (.eq (.var 361) (.var 533)) (.and (.eq (.var 362) (.var 534)) (.and (.eq (.var 363) (.var 535)) (.and (.eq (.var 364) (.var 536)) (.and (.eq (.var 365) (.var 537)) (.and (.eq (.var 366) (.var 538)) (.and (.eq (.var 367) (.var 539)) (.and (.eq (.var 368) (.var 540)) (.and (.eq (.var 369) (.var 541)) (.and (.eq (.var 370) (.var 542)) (.and (.eq (.var 371) (.var 543)) (.and (.eq (.var 372) (.var 544)) (.and (.eq (.var 373) (.var 545)) (.and (.eq (.var 374) (.var 546)) (.and (.eq (.var 375) (.var 547)) (.and (.eq (.var 376) (.var 548)) (.and (.eq (.var 377) (.var 549)) (.and (.eq (.var 378) (.var 550)) (.and (.eq (.var 379) (.var 551)) (.and (.eq (.var 380) (.var 552)) (.and (.eq (.var 381) (.var 553)) (.and (.eq (.var 382) (.var 554)) (.and (.eq (.var 383) (.var 555)) (.and (.eq (.var 384) (.var 556)) (.and (.eq (.var 385) (.var 557)) (.and (.eq (.var 386) (.var 558)) (.and (.eq (.var 387) (.var 559)) (.and (.eq (.var 388) (.var 560)) (.and (.eq (.var 389) (.var 561)) (.and (.eq (.var 390) (.var 562)) (.and (.eq (.var 391) (.var 563)) (.and (.eq (.var 392) (.var 564)) (.and (.eq (.var 393) (.var 565)) (.and (.eq (.var 394) (.var 566)) (.and (.eq (.var 395) (.var 567)) (.and (.eq (.var 396) (.var 568)) (.and (.eq (.var 397) (.var 569)) (.and (.eq (.var 398) (.var 570)) (.and (.eq (.var 399) (.var 571)) (.and (.eq (.var 400) (.var 572)) (.and (.eq (.var 401) (.var 573)) (.and (.eq (.var 402) (.var 574)) (.and (.eq (.var 403) (.var 575)) (.and (.eq (.var 404) (.var 576)) (.and (.eq (.var 405) (.var 577)) (.and (.eq (.var 406) (.var 578)) (.and (.eq (.var 407) (.var 579)) (.and (.eq (.var 408) (.var 580)) (.and (.eq (.var 409) (.var 581)) (.and (.eq (.var 410) (.var 582)) (.and (.eq (.var 411) (.var 583)) (.and (.eq (.var 412) (.var 584)) (.and (.eq (.var 413) (.var 585)) (.and (.eq (.var 414) (.var 586)) (.and (.eq (.var 415) (.var 587)) (.and (.eq (.var 416) (.var 588)) (.and (.eq (.var 417) (.var 589)) (.and (.eq (.var 418) (.var 590)) (.and (.eq (.var 419) (.var 591)) (.and (.eq (.var 420) (.var 592)) (.and (.eq (.var 421) (.var 593)) (.and (.eq (.var 422) (.var 594)) (.and (.eq (.var 423) (.var 595)) (.and (.eq (.var 424) (.var 596)) (.and (.eq (.var 425) (.var 597)) (.and (.eq (.var 426) (.var 598)) (.and (.eq (.var 427) (.var 599)) (.and (.eq (.var 428) (.var 600)) (.and (.eq (.var 429) (.var 601)) (.and (.eq (.var 430) (.var 602)) (.and (.eq (.var 431) (.var 603)) (.and (.eq (.var 432) (.var 604)) (.and (.eq (.var 433) (.var 605)) (.and (.eq (.var 434) (.var 606)) (.and (.eq (.var 435) (.var 607)) (.and (.eq (.var 436) (.var 608)) (.and (.eq (.var 437) (.var 609)) (.and (.eq (.var 438) (.var 610)) (.and (.eq (.var 439) (.var 611)) (.and (.eq (.var 440) (.var 612)) (.and (.eq (.var 441) (.var 613)) (.and (.eq (.var 442) (.var 614)) (.and (.eq (.var 443) (.var 615)) (.and (.eq (.var 444) (.var 616)) (.and (.eq (.var 445) (.var 617)) (.and (.eq (.var 446) (.var 618)) (.and (.eq (.var 447) (.var 619)) (.and (.eq (.var 448) (.var 620)) (.and (.eq (.var 449) (.var 621)) (.and (.eq (.var 450) (.var 622)) (.tt true)))))))))))))))))))))))))))))))))))))))))))))))))))))))))))))))))))))))))))))))))))))))))))))))))))))))))))))))))))))))))))))))))))))))))))))))))))))))))))))))))))))))))))) (.tt true))
(.br (.eq (.var 451) (.var 623))
(.call 4 (kSta) .nil 624
(.call 5 (kSta) .nil 795
(.br (.beq (.and (.eq (.var 624) (.var 795)) (.and (.eq (.var 625) (.var 796)) (.and (.eq (.var 626) (.var 797)) (.and (.eq (.var 627) (.var 798)) (.and (.eq (.var 628) (.var 799)) (.and (.eq (.var 629) (.var 800)) (.and (.eq (.var 630) (.var 801)) (.and (.eq (.var 631) (.var 802)) (.and (.eq (.var 632) (.var 803)) (.and (.eq (.var 633) (.var 804)) (.and (.eq (.var 634) (.var 805)) (.and (.eq (.var 635) (.var 806)) (.and (.eq (.var 636) (.var 807)) (.and (.eq (.var 637) (.var 808)) (.and (.eq (.var 638) (.var 809)) (.and (.eq (.var 639) (.var 810)) (.and (.eq (.var 640) (.var 811)) (.and (.eq (.var 641) (.var 812)) (.and (.eq (.var 642) (.var 813)) (.and (.eq (.var 643) (.var 814)) (.and (.eq (.var 644) (.var 815)) (.and (.eq (.var 645) (.var 816)) (.and (.eq (.var 646) (.var 817)) (.and (.eq (.var 647) (.var 818)) (.and (.eq (.var 648) (.var 819)) (.and (.eq (.var 649) (.var 820)) (.and (.eq (.var 650) (.var 821)) (.and (.eq (.var 651) (.var 822)) (.and (.eq (.var 652) (.var 823)) (.and (.eq (.var 653) (.var 824)) (.and (.eq (.var 654) (.var 825)) (.and (.eq (.var 655) (.var 826)) (.and (.eq (.var 656) (.var 827)) (.and (.eq (.var 657) (.var 828)) (.and (.eq (.var 658) (.var 829)) (.and (.eq (.var 659) (.var 830)) (.and (.eq (.var 660) (.var 831)) (.and (.eq (.var 661) (.var 832)) (.and (.eq (.var 662) (.var 833)) (.and (.eq (.var 663) (.var 834)) (.and (.eq (.var 664) (.var 835)) (.and (.eq (.var 665) (.var 836)) (.and (.eq (.var 666) (.var 837)) (.and (.eq (.var 667) (.var 838)) (.and (.eq (.var 668) (.var 839)) (.and (.eq (.var 669) (.var 840)) (.and (.eq (.var 670) (.var 841)) (.and (.eq (.var 671) (.var 842)) (.and (.eq (.var 672) (.var 843)) (.and (.eq (.var 673) (.var 844)) (.and (.eq (.var 674) (.var 845)) (.and (.eq (.var 675) (.var 846)) (.and (.eq (.var 676) (.var 847)) (.and (.eq (.var 677) (.var 848)) (.and (.eq (.var 678) (.var 849)) (.and (.eq (.var 679) (.var 850)) (.and (.eq (.var 680) (.var 851)) (.and (.eq (.var 681) (.var 852)) (.and (.eq (.var 682) (.var 853)) (.and (.eq (.var 683) (.var 854)) (.and (.eq (.var 684) (.var 855)) (.and (.eq (.var 685) (.var 856)) (.and (.eq (.var 686) (.var 857)) (.and (.eq (.var 687) (.var 858)) (.and (.eq (.var 688) (.var 859)) (.and (.eq (.var 689) (.var 860)) (.and (.eq (.var 690) (.var 861)) (.and (.eq (.var 691) (.var 862)) (.and (.eq (.var 692) (.var 863)) (.and (.eq (.var 693) (.var 864)) (.and (.eq (.var 694) (.var 865)) (.and (.eq (.var 695) (.var 866)) (.and (.eq (.var 696) (.var 867)) (.and (.eq (.var 697) (.var 868)) (.and (.eq (.var 698) (.var 869)) (.and (.eq (.var 699) (.var 870)) (.and (.eq (.var 700) (.var 871)) (.and (.eq (.var 701) (.var 872)) (.and (.eq (.var 702) (.var 873)) (.and (.eq (.var 703) (.var 874)) (.and (.eq (.var 704) (.var 875)) (.and (.eq (.var 705) (.var 876)) (.and (.eq (.var 706) (.var 877)) (.and (.eq (.var 707) (.var 878)) (.and (.eq (.var 708) (.var 879)) (.and (.eq (.var 709) (.var 880)) (.and (.eq (.var 710) (.var 881)) (.and (.eq (.var 711) (.var 882)) (.and (.eq (.var 712) (.var 883)) (.and (.eq (.var 713) (.var 884)) (.and (.eq (.var 714) (.var 885)) (.and (.eq (.var 715) (.var 886)) (.and (.eq (.var 716) (.var 887)) (.and (.eq (.var 717) (.var 888)) (.and (.eq (.var 718) (.var 889)) (.and (.eq (.var 719) (.var 890)) (.and (.eq (.var 720) (.var 891)) (.and (.eq (.var 721) (.var 892)) (.and (.eq (.var 722) (.var 893)) (.and (.eq (.var 723) (.var 894)) (.and (.eq (.var 724) (.var 895)) (.and (.eq (.var 725) (.var 896)) (.and (.eq (.var 726) (.var 897)) (.and (.eq (.var 727) (.var 898)) (.and (.eq (.var 728) (.var 899)) (.and (.eq (.var 729) (.var 900)) (.and (.eq (.var 730) (.var 901)) (.and (.eq (.var 731) (.var 902)) (.and (.eq (.var 732) (.var 903)) (.and (.eq (.var 733) (.var 904)) (.and (.eq (.var 734) (.var 905)) (.and (.eq (.var 735) (.var 906)) (.and (.eq (.var 736) (.var 907)) (.and (.eq (.var 737) (.var 908)) (.and (.eq (.var 738) (.var 909)) (.and (.eq (.var 739) (.var 910)) (.and (.eq (.var 740) (.var 911)) (.and (.eq (.var 741) (.var 912)) (.and (.eq (.var 742) (.var 913)) (.and (.eq (.var 743) (.var 914)) (.and (.eq (.var 744) (.var 915)) (.and (.eq (.var 745) (.var 916)) (.and (.eq (.var 746) (.var 917)) (.and (.eq (.var 747) (.var 918)) (.and (.eq (.var 748) (.var 919)) (.and (.eq (.var 749) (.var 920)) (.and (.eq (.var 750) (.var 921)) (.and (.eq (.var 751) (.var 922)) (.and (.eq (.var 752) (.var 923)) (.and (.eq (.var 753) (.var 924)) (.and (.eq (.var 754) (.var 925)) (.and (.eq (.var 755) (.var 926)) (.and (.eq (.var 756) (.var 927)) (.and (.eq (.var 757) (.var 928)) (.and (.eq (.var 758) (.var 929)) (.and (.eq (.var 759) (.var 930)) (.and (.eq (.var 760) (.var 931)) (.and (.eq (.var 761) (.var 932)) (.and (.eq (.var 762) (.var 933)) (.and (.eq (.var 763) (.var 934)) (.and (.eq (.var 764) (.var 935)) (.and (.eq (.var 765) (.var 936)) (.and (.eq (.var 766) (.var 937)) (.and (.eq (.var 767) (.var 938)) (.and (.eq (.var 768) (.var 939)) (.and (.eq (.var 769) (.var 940)) (.and (.eq (.var 770) (.var 941)) (.and (.eq (.var 771) (.var 942)) (.and (.eq (.var 772) (.var 943)) (.and (.eq (.var 773) (.var 944)) (.and (.eq (.var 774) (.var 945)) (.and (.eq (.var 775) (.var 946)) (.and (.eq (.var 776) (.var 947)) (.and (.eq (.var 777) (.var 948)) (.and (.eq (.var 778) (.var 949)) (.and (.eq (.var 779) (.var 950)) (.and (.eq (.var 780) (.var 951)) (.and (.eq (.var 781) (.var 952)) (.and (.eq (.var 782) (.var 953)) (.and (.eq (.var 783) (.var 954)) (.and (.eq (.var 784) (.var 955)) (.and (.eq (.var 785) (.var 956)) (.and (.eq (.var 786) (.var 957)) (.and (.eq (.var 787) (.var 958)) (.and (.eq (.var 788) (.var 959)) (.and (.eq (.var 789) (.var 960)) (.and (.eq (.var 790) (.var 961)) (.and (.eq (.var 791) (.var 962)) (.and (.eq (.var 792) (.var 963)) (.and (.eq (.var 793) (.var 964)) (.and (.eq (.var 794) (.var 965)) (.tt true)))))))))))))))))))))))))))))))))))))))))))))))))))))))))))))))))))))))))))))))))))))))))))))))))))))))))))))))))))))))))))))))))))))))))))))))))))))))))))))))))))))))))))) (.tt true))
(.call 6 (kTy) .nil 966
(.call 7 (kTy) .nil 975
(.br (.eq (.var 966) (.var 975))
(.br (.eq (.var 967) (.var 976))
(.br (.eq (.var 968) (.var 977))
(.br (.eq (.var 969) (.var 978))
(.br (.eq (.var 970) (.var 979))
(.br (.eq (.var 971) (.var 980))
(.br (.eq (.var 972) (.var 981))
(.br (.eq (.var 973) (.var 982))
(.br (.eq (.var 974) (.var 983))
(.call 8 ([.bool]) (.vs 0 171 .nil) 984
(.call 9 ([.bool]) (.vs 0 171 .nil) 985
(.br (.beq (.bvar 984) (.bvar 985))
(.call 10 ([.bool]) (.vs 171 9 .nil) 986
(.call 11 ([.bool]) (.vs 171 9 .nil) 987
(.br (.beq (.bvar 986) (.bvar 987))
(.call 12 ([.bool]) (.vs 171 9 (.cons (.var 256) .nil)) 988
(.call 13 ([.bool]) (.vs 171 9 (.cons (.var 256) .nil)) 989
(.br (.beq (.bvar 988) (.bvar 989))
(.call 14 ([.bool]) (.vs 0 171 (.vs 180 76 .nil)) 990
(.call 15 ([.bool]) (.vs 0 171 (.vs 180 76 .nil)) 991
(.br (.beq (.bvar 990) (.bvar 991))
(.call 16 ([.bool]) .nil 992
(.leaf (.consb (.bvar 992) .nil)))
(.leaf (.consb (.tt false) .nil)))))
(.leaf (.consb (.tt false) .nil)))))
(.leaf (.consb (.tt false) .nil)))))
(.leaf (.consb (.tt false) .nil)))))
(.leaf (.consb (.tt false) .nil)))
(.leaf (.consb (.tt false) .nil)))
(.leaf (.consb (.tt false) .nil)))
(.leaf (.consb (.tt false) .nil)))
(.leaf (.consb (.tt false) .nil)))
(.leaf (.consb (.tt false) .nil)))
(.leaf (.consb (.tt false) .nil)))
(.leaf (.consb (.tt false) .nil)))
(.leaf (.consb (.tt false) .nil)))))
(.leaf (.consb (.tt false) .nil)))))
(.leaf (.consb (.tt false) .nil)))
(.leaf (.consb (.tt false) .nil)))
(.leaf (.consb (.tt false) .nil)))
(.leaf (.consb (.tt false) .nil)))
(.leaf (.consb (.tt false) .nil)))
(.leaf (.consb (.tt false) .nil)))
(.leaf (.consb (.tt false) .nil)))
(.leaf (.consb (.tt false) .nil)))
(.leaf (.consb (.tt false) .nil)))
(.leaf (.consb (.tt false) .nil)))
(.leaf (.consb (.tt false) .nil)))
(.leaf (.consb (.tt false) .nil)))))))
def sP_stells : Spec := ⟨fun k => match k with | 0 => sF_tload | 1 => sF_yload | 2 => sF_tstore | 3 => sF_ystore | 4 => sF_tfirst | 5 => sF_yfirst | 6 => sF_tscal | 7 => sF_yscal | 8 => sF_tmay | 9 => sF_ymay | 10 => sF_ttok | 11 => sF_ytok | 12 => sF_thold | 13 => sF_yhold | 14 => sF_thas | 15 => sF_yhas | 16 => sF_twakes | _ => fun _ => [], fun k => match k with | _ => fun _ => True⟩
set_option maxRecDepth 100000 in
theorem sR_stells : treeIs tys_SdJ [sM_tload 0, sM_yload 1, sM_tstore 2, sM_ystore 3, sM_tfirst 4, sM_yfirst 5, sM_tscal 6, sM_yscal 7, sM_tmay 8, sM_ymay 9, sM_ttok 10, sM_ytok 11, sM_thold 12, sM_yhold 13, sM_thas 14, sM_yhas 15, sM_twakes 16] [] [] [] 400 Try.f5 [.agg kSta, .agg kTy, .agg kSnap, .one (.int .u64), .one (.int .i64), .one (.int .i64), .one (.int .i64)] [.one .bool] false (v_Sta ( v_Ty ( v_Snap ( .int .u64 :: ( .int .i64 :: ( .int .i64 :: ( .int .i64 :: ([])))))))) sT_stells := ⟨by kernel_rfl, by kernel_rfl, by kernel_rfl⟩
set_option maxRecDepth 100000 in
set_option maxHeartbeats 8000000 in
theorem sX_stells (s : Sta) (hs : Sta.ok s) (t : Ty) (ht : Ty.ok t) (x : Snap) (hx : Snap.ok x) (v : Int) (hv : inK .u64 v = true) (lo : Int) (hlo : inK .i64 lo = true) (hi : Int) (hhi : inK .i64 hi = true) (size : Int) (hsize : inK .i64 size = true) (ρ : Env) (g : varsD ρ 0 (v_Sta ( v_Ty ( v_Snap ( .int .u64 :: ( .int .i64 :: ( .int .i64 :: ( .int .i64 :: ([])))))))) = (d_Sta s ( d_Ty t ( d_Snap x ( .z v :: ( .z lo :: ( .z hi :: ( .z size :: ([]))))))))) : sT_stells.asks sP_stells (fun ρ e => e.D ρ = sF_stells (d_Sta s ( d_Ty t ( d_Snap x ( .z v :: ( .z lo :: ( .z hi :: ( .z size :: ([]))))))))) ρ fun _ _ => False := by
  simp only [sF_stells, rd_Sta_d, rd_Ty_d, rd_Snap_d, rdZ, rdB]
  simp only [d_Sta, d_Ty, d_Snap, v_Sta, v_Ty, v_Snap, varsD, varD, List.cons.injEq, Dt.z.injEq, Dt.l.injEq, b2i_eq_iff, Nat.reduceAdd, and_true] at g
  simp (maxSteps := 10000000) only [sT_stells, sP_stells, d_Sta, d_Ty, d_Snap, kSta, kTy, rd_Sta, rd_Ty, rd_Snap, rd8, rdZ, sF_tload, sF_yload, sF_tstore, sF_ystore, sF_tfirst, sF_yfirst, sF_tscal, sF_yscal, sF_tmay, sF_ymay, sF_ttok, sF_ytok, sF_thold, sF_yhold, sF_thas, sF_yhas, sF_twakes, sV_tload, sV_yload, sV_tstore, sV_ystore, sV_tmay, sV_ymay, sV_ttok, sV_ytok, sV_thold, sV_yhold, sV_thas, sV_yhas, sF_stells, sV_stells, Tr.asks, upd_same, okDs, okD, eqs, E.I, E.B, E.L, E.R, E.D, E.vs, dI, dB, dL, varD, varsD, List.getElem?_cons_zero, List.getElem?_cons_succ, List.cons_append, List.nil_append, Nat.zero_add, Nat.add_zero, Nat.reduceAdd, and_true, true_and, b2i_one, -eq_self, etasX, g]
  intro e; (try simp only [e, etasX, -eq_self]); clear e
  intro e; (try simp only [e, etasX, -eq_self]); clear e
  intro e; (try simp only [e, etasX, -eq_self]); clear e
  intro e; (try simp only [e, etasX, -eq_self]); clear e
  refine ⟨fun c0 => ?_, fun c0 => ?_⟩
  refine ⟨fun c1 => ?_, fun c1 => ?_⟩
  refine ⟨fun c2 => ?_, fun c2 => ?_⟩
  refine ⟨fun c3 => ?_, fun c3 => ?_⟩
  refine ⟨fun c4 => ?_, fun c4 => ?_⟩
  refine ⟨fun c5 => ?_, fun c5 => ?_⟩
  refine ⟨fun c6 => ?_, fun c6 => ?_⟩
  refine ⟨fun c7 => ?_, fun c7 => ?_⟩
  refine ⟨fun c8 => ?_, fun c8 => ?_⟩
  refine ⟨fun c9 => ?_, fun c9 => ?_⟩
  refine ⟨fun c10 => ?_, fun c10 => ?_⟩
  refine ⟨fun c11 => ?_, fun c11 => ?_⟩
  intro e; (try simp only [e, etasX, -eq_self]); clear e
  intro e; (try simp only [e, etasX, -eq_self]); clear e
  refine ⟨fun c12 => ?_, fun c12 => ?_⟩
  intro e; (try simp only [e, etasX, -eq_self]); clear e
  intro e; (try simp only [e, etasX, -eq_self]); clear e
  refine ⟨fun c13 => ?_, fun c13 => ?_⟩
  refine ⟨fun c14 => ?_, fun c14 => ?_⟩
  refine ⟨fun c15 => ?_, fun c15 => ?_⟩
  refine ⟨fun c16 => ?_, fun c16 => ?_⟩
  refine ⟨fun c17 => ?_, fun c17 => ?_⟩
  refine ⟨fun c18 => ?_, fun c18 => ?_⟩
  refine ⟨fun c19 => ?_, fun c19 => ?_⟩
  refine ⟨fun c20 => ?_, fun c20 => ?_⟩
  refine ⟨fun c21 => ?_, fun c21 => ?_⟩
  intro e; (try simp only [e, etasX, -eq_self]); clear e
  intro e; (try simp only [e, etasX, -eq_self]); clear e
  refine ⟨fun c22 => ?_, fun c22 => ?_⟩
  intro e; (try simp only [e, etasX, -eq_self]); clear e
  intro e; (try simp only [e, etasX, -eq_self]); clear e
  refine ⟨fun c23 => ?_, fun c23 => ?_⟩
  intro e; (try simp only [e, etasX, -eq_self]); clear e
  intro e; (try simp only [e, etasX, -eq_self]); clear e
  refine ⟨fun c24 => ?_, fun c24 => ?_⟩
  intro e; (try simp only [e, etasX, -eq_self]); clear e
  intro e; (try simp only [e, etasX, -eq_self]); clear e
  refine ⟨fun c25 => ?_, fun c25 => ?_⟩
  intro e; (try simp only [e, etasX, -eq_self]); clear e
  · rfl
  · exact absurd c25 (by simp)
  · exact absurd c24 (by simp)
  · exact absurd c23 (by simp)
  · exact absurd c22 (by simp)
  · exact absurd c21 (by simp)
  · exact absurd c20 (by simp)
  · exact absurd c19 (by simp)
  · exact absurd c18 (by simp)
  · exact absurd c17 (by simp)
  · exact absurd c16 (by simp)
  · exact absurd c15 (by simp)
  · exact absurd c14 (by simp)
  · exact absurd c13 (by simp)
  · exact absurd c12 (by simp)
  · exact absurd c11 (by simp)
  · exact absurd c10 (by simp)
  · exact absurd c9 (by simp)
  · exact absurd c8 (by simp)
  · exact absurd c7 (by simp)
  · exact absurd c6 (by simp)
  · exact absurd c5 (by simp)
  · exact absurd c4 (by simp)
  · exact absurd c3 (by simp)
  · exact absurd c2 (by simp)
  · exact absurd c1 (by simp)
  · exact absurd c0 (by simp)
theorem sC_stells (xs : List Dt) (vals : List Value) (w : World) (hw : shRel w [.agg kSta, .agg kTy, .agg kSnap, .one (.int .u64), .one (.int .i64), .one (.int .i64), .one (.int .i64)] xs vals) : Calls Try.prog 5 vals.toArray w fun e w' => ∃ v, e = .returned v ∧ RetOk [.one .bool] false w w' (sF_stells xs) v :=
  (fun_calls (by kernel_rfl) tysok_SdJ (smc (sK_tload rfl) (smc (sK_yload rfl) (smc (sK_tstore rfl) (smc (sK_ystore rfl) (smc (sK_tfirst rfl) (smc (sK_yfirst rfl) (smc (sK_tscal rfl) (smc (sK_yscal rfl) (smc (sK_tmay rfl) (smc (sK_ymay rfl) (smc (sK_ttok rfl) (smc (sK_ytok rfl) (smc (sK_thold rfl) (smc (sK_yhold rfl) (smc (sK_thas rfl) (smc (sK_yhas rfl) (smc (sK_twakes rfl) sm0))))))))))))))))) Try.func5 fn0 sR_stells (pre := fun _ => True) (for_Sta fun q0 gq0 => for_Ty fun q1 gq1 => for_Snap fun q2 gq2 => fun x256 gx256 x257 gx257 x258 gx258 x259 gx259 hp ρ g => sX_stells q0 gq0 q1 gq1 q2 gq2 x256 gx256 x257 gx257 x258 gx258 x259 gx259 ρ g) xs vals w hw trivial).2
theorem rwU8 : Rw Try.prog 5 [some .u8] := Rw.int .u8 Try.underlying5 (by kernel_rfl)
theorem rwI8 : Rw Try.prog 22 [some .i8] := Rw.int .i8 Try.underlying22 (by kernel_rfl)
theorem rwN : Rw Try.prog 3 [some .i64] := Rw.int .i64 Try.underlying3 (by kernel_rfl)
theorem rwU : Rw Try.prog 23 [some .u64] := Rw.int .u64 Try.underlying23 (by kernel_rfl)
theorem rwI : Rw Try.prog 2 [some .i64] := Rw.int .i64 Try.underlying2 (by kernel_rfl)
theorem rwRg : Rw Try.prog 25 [some .u64, some .u64, some .i64, some .i64] := by
  refine Rw.struct (ks := [some .u64, some .u64, some .i64, some .i64]) ?_ Try.underlying25 (by kernel_rfl)
  exact (RwSeq.cons (ks := [some .u64]) rwU (by rfl) (RwSeq.cons (ks := [some .u64]) rwU (by rfl) (RwSeq.cons (ks := [some .i64]) rwI (by rfl) (RwSeq.cons (ks := [some .i64]) rwI (by rfl) (RwSeq.nil _ _)))))
theorem rwKn : Rw Try.prog 27 [some .u64, some .u64] := by
  refine Rw.struct (ks := [some .u64, some .u64]) ?_ Try.underlying27 (by kernel_rfl)
  exact (RwSeq.cons (ks := [some .u64]) rwU (by rfl) (RwSeq.cons (ks := [some .u64]) rwU (by rfl) (RwSeq.nil _ _)))
theorem rwSc : Rw Try.prog 29 [some .u64, some .u64, some .i64, some .i64, some .u64, some .u64] := by
  refine Rw.struct (ks := [some .u64, some .u64, some .i64, some .i64, some .u64, some .u64]) ?_ Try.underlying29 (by kernel_rfl)
  exact (RwSeq.cons (ks := [some .u64, some .u64, some .i64, some .i64]) rwRg (by rfl) (RwSeq.cons (ks := [some .u64, some .u64]) rwKn (by rfl) (RwSeq.nil _ _)))
theorem rwTy : Rw Try.prog 31 [some .i8, some .u64, some .u64, some .i64, some .i64, some .u64, some .u64, some .i64, some .i64] := by
  refine Rw.struct (ks := [some .i8, some .u64, some .u64, some .i64, some .i64, some .u64, some .u64, some .i64, some .i64]) ?_ Try.underlying31 (by kernel_rfl)
  exact (RwSeq.cons (ks := [some .i8]) rwI8 (by rfl) (RwSeq.cons (ks := [some .u64, some .u64, some .i64, some .i64, some .u64, some .u64]) rwSc (by rfl) (RwSeq.cons (ks := [some .i64]) rwN (by rfl) (RwSeq.cons (ks := [some .i64]) rwN (by rfl) (RwSeq.nil _ _)))))
set_option maxRecDepth 100000 in
theorem rwTs11 : Rw Try.prog 32 (repL [some .i8, some .u64, some .u64, some .i64, some .i64, some .u64, some .u64, some .i64, some .i64] 11) := Rw.array rwTy Try.underlying32 (by kernel_rfl)
set_option maxRecDepth 100000 in
theorem rwTs8 : Rw Try.prog 33 (repL [some .i8, some .u64, some .u64, some .i64, some .i64, some .u64, some .u64, some .i64, some .i64] 8) := Rw.array rwTy Try.underlying33 (by kernel_rfl)
set_option maxRecDepth 100000 in
theorem rwU11 : Rw Try.prog 41 (repL [some .u64] 11) := Rw.array rwU Try.underlying41 (by kernel_rfl)
set_option maxRecDepth 100000 in
theorem rwB64 : Rw Try.prog 42 (repL [some .u8] 64) := Rw.array rwU8 Try.underlying42 (by kernel_rfl)
set_option maxRecDepth 100000 in
theorem rwSta : Rw Try.prog 35 ((repL [some .i8, some .u64, some .u64, some .i64, some .i64, some .u64, some .u64, some .i64, some .i64] 11) ++ ((repL [some .i8, some .u64, some .u64, some .i64, some .i64, some .u64, some .u64, some .i64, some .i64] 8) ++ [])) := Rw.struct (ks := ((repL [some .i8, some .u64, some .u64, some .i64, some .i64, some .u64, some .u64, some .i64, some .i64] 11) ++ ((repL [some .i8, some .u64, some .u64, some .i64, some .i64, some .u64, some .u64, some .i64, some .i64] 8) ++ []))) (RwSeq.cons (ks := (repL [some .i8, some .u64, some .u64, some .i64, some .i64, some .u64, some .u64, some .i64, some .i64] 11)) rwTs11 (by rfl) (RwSeq.cons (ks := (repL [some .i8, some .u64, some .u64, some .i64, some .i64, some .u64, some .u64, some .i64, some .i64] 8)) rwTs8 (by rfl) (RwSeq.nil _ _))) Try.underlying35 (by kernel_rfl)
set_option maxRecDepth 100000 in
theorem rwSnap : Rw Try.prog 44 ((repL [some .u64] 11) ++ ([some .i64] ++ ((repL [some .u8] 64) ++ []))) := Rw.struct (ks := ((repL [some .u64] 11) ++ ([some .i64] ++ ((repL [some .u8] 64) ++ [])))) (RwSeq.cons (ks := (repL [some .u64] 11)) rwU11 (by rfl) (RwSeq.cons (ks := [some .i64]) rwN (by rfl) (RwSeq.cons (ks := (repL [some .u8] 64)) rwB64 (by rfl) (RwSeq.nil _ _)))) Try.underlying44 (by kernel_rfl)
def ec_Ty (t : List CE) : List CE := some .i8 :: some .u64 :: some .u64 :: some .i64 :: some .i64 :: some .u64 :: some .u64 :: some .i64 :: some .i64 :: t
def ck_Ty (t : List CK) : List CK := .int .i8 :: .int .u64 :: .int .u64 :: .int .i64 :: .int .i64 :: .int .u64 :: .int .u64 :: .int .i64 :: .int .i64 :: t
set_option maxRecDepth 100000 in
theorem row_Ty {ks : List CE} {q : List Int} (h : rowIn (ec_Ty ks) q = true) : ∃ (a : Ty) (q' : List Int), Ty.ok a ∧ rowIn ks q' = true ∧ ∀ (w : World) (cs : List CK) (xs r : List Dt), cksRel w cs xs (rowV ks q') r → cksRel w (ck_Ty cs) (d_Ty a xs) (rowV (ec_Ty ks) q) r := by
  obtain ⟨y0, q, rfl, e0, h⟩ := rowIn_cons h
  obtain ⟨y1, q, rfl, e1, h⟩ := rowIn_cons h
  obtain ⟨y2, q, rfl, e2, h⟩ := rowIn_cons h
  obtain ⟨y3, q, rfl, e3, h⟩ := rowIn_cons h
  obtain ⟨y4, q, rfl, e4, h⟩ := rowIn_cons h
  obtain ⟨y5, q, rfl, e5, h⟩ := rowIn_cons h
  obtain ⟨y6, q, rfl, e6, h⟩ := rowIn_cons h
  obtain ⟨y7, q, rfl, e7, h⟩ := rowIn_cons h
  obtain ⟨y8, q, rfl, e8, h⟩ := rowIn_cons h
  exact ⟨⟨y0, y1, y2, y3, y4, y5, y6, y7, y8⟩, q, ⟨e0, e1, e2, e3, e4, e5, e6, e7, e8⟩, h, fun w cs xs r hr => ⟨_, _, _, rfl, ⟨_, rfl, rfl, e0⟩, ⟨_, _, _, rfl, ⟨_, rfl, rfl, e1⟩, ⟨_, _, _, rfl, ⟨_, rfl, rfl, e2⟩, ⟨_, _, _, rfl, ⟨_, rfl, rfl, e3⟩, ⟨_, _, _, rfl, ⟨_, rfl, rfl, e4⟩, ⟨_, _, _, rfl, ⟨_, rfl, rfl, e5⟩, ⟨_, _, _, rfl, ⟨_, rfl, rfl, e6⟩, ⟨_, _, _, rfl, ⟨_, rfl, rfl, e7⟩, ⟨_, _, _, rfl, ⟨_, rfl, rfl, e8⟩, hr⟩⟩⟩⟩⟩⟩⟩⟩⟩⟩
set_option maxRecDepth 100000 in
theorem arg_Ty {q : List Int} (h : rowIn (ec_Ty []) q = true) : ∃ a : Ty, Ty.ok a ∧ ∀ (w : World) (r : List Dt), cksRel w kTy (d_Ty a r) (rowV (ec_Ty []) q) r := by
  obtain ⟨a, q', o, h, s⟩ := row_Ty h
  obtain rfl := rowIn_nil h
  exact ⟨a, o, fun w r => s w [] _ _ ⟨rfl, rfl⟩⟩
def ec_Sta (t : List CE) : List CE := ec_Ty (ec_Ty (ec_Ty (ec_Ty (ec_Ty (ec_Ty (ec_Ty (ec_Ty (ec_Ty (ec_Ty (ec_Ty (ec_Ty (ec_Ty (ec_Ty (ec_Ty (ec_Ty (ec_Ty (ec_Ty (ec_Ty (t)))))))))))))))))))
def ck_Sta (t : List CK) : List CK := ck_Ty (ck_Ty (ck_Ty (ck_Ty (ck_Ty (ck_Ty (ck_Ty (ck_Ty (ck_Ty (ck_Ty (ck_Ty (ck_Ty (ck_Ty (ck_Ty (ck_Ty (ck_Ty (ck_Ty (ck_Ty (ck_Ty (t)))))))))))))))))))
set_option maxRecDepth 100000 in
theorem row_Sta {ks : List CE} {q : List Int} (h : rowIn (ec_Sta ks) q = true) : ∃ (a : Sta) (q' : List Int), Sta.ok a ∧ rowIn ks q' = true ∧ ∀ (w : World) (cs : List CK) (xs r : List Dt), cksRel w cs xs (rowV ks q') r → cksRel w (ck_Sta cs) (d_Sta a xs) (rowV (ec_Sta ks) q) r := by
  obtain ⟨r0, q_r0, o_r0, h, s_r0⟩ := row_Ty h
  obtain ⟨r1, q_r1, o_r1, h, s_r1⟩ := row_Ty h
  obtain ⟨r2, q_r2, o_r2, h, s_r2⟩ := row_Ty h
  obtain ⟨r3, q_r3, o_r3, h, s_r3⟩ := row_Ty h
  obtain ⟨r4, q_r4, o_r4, h, s_r4⟩ := row_Ty h
  obtain ⟨r5, q_r5, o_r5, h, s_r5⟩ := row_Ty h
  obtain ⟨r6, q_r6, o_r6, h, s_r6⟩ := row_Ty h
  obtain ⟨r7, q_r7, o_r7, h, s_r7⟩ := row_Ty h
  obtain ⟨r8, q_r8, o_r8, h, s_r8⟩ := row_Ty h
  obtain ⟨r9, q_r9, o_r9, h, s_r9⟩ := row_Ty h
  obtain ⟨r10, q_r10, o_r10, h, s_r10⟩ := row_Ty h
  obtain ⟨s0, q_s0, o_s0, h, s_s0⟩ := row_Ty h
  obtain ⟨s1, q_s1, o_s1, h, s_s1⟩ := row_Ty h
  obtain ⟨s2, q_s2, o_s2, h, s_s2⟩ := row_Ty h
  obtain ⟨s3, q_s3, o_s3, h, s_s3⟩ := row_Ty h
  obtain ⟨s4, q_s4, o_s4, h, s_s4⟩ := row_Ty h
  obtain ⟨s5, q_s5, o_s5, h, s_s5⟩ := row_Ty h
  obtain ⟨s6, q_s6, o_s6, h, s_s6⟩ := row_Ty h
  obtain ⟨s7, q_s7, o_s7, h, s_s7⟩ := row_Ty h
  exact ⟨⟨r0, r1, r2, r3, r4, r5, r6, r7, r8, r9, r10, s0, s1, s2, s3, s4, s5, s6, s7⟩, _, ⟨o_r0, o_r1, o_r2, o_r3, o_r4, o_r5, o_r6, o_r7, o_r8, o_r9, o_r10, o_s0, o_s1, o_s2, o_s3, o_s4, o_s5, o_s6, o_s7⟩, h, fun w cs xs r hr => s_r0 w _ _ _ (s_r1 w _ _ _ (s_r2 w _ _ _ (s_r3 w _ _ _ (s_r4 w _ _ _ (s_r5 w _ _ _ (s_r6 w _ _ _ (s_r7 w _ _ _ (s_r8 w _ _ _ (s_r9 w _ _ _ (s_r10 w _ _ _ (s_s0 w _ _ _ (s_s1 w _ _ _ (s_s2 w _ _ _ (s_s3 w _ _ _ (s_s4 w _ _ _ (s_s5 w _ _ _ (s_s6 w _ _ _ (s_s7 w _ _ _ hr))))))))))))))))))⟩
set_option maxRecDepth 100000 in
theorem arg_Sta {q : List Int} (h : rowIn (ec_Sta []) q = true) : ∃ a : Sta, Sta.ok a ∧ ∀ (w : World) (r : List Dt), cksRel w kSta (d_Sta a r) (rowV (ec_Sta []) q) r := by
  obtain ⟨a, q', o, h, s⟩ := row_Sta h
  obtain rfl := rowIn_nil h
  exact ⟨a, o, fun w r => s w [] _ _ ⟨rfl, rfl⟩⟩
def ec_Snap (t : List CE) : List CE := some .u64 :: some .u64 :: some .u64 :: some .u64 :: some .u64 :: some .u64 :: some .u64 :: some .u64 :: some .u64 :: some .u64 :: some .u64 :: some .i64 :: some .u8 :: some .u8 :: some .u8 :: some .u8 :: some .u8 :: some .u8 :: some .u8 :: some .u8 :: some .u8 :: some .u8 :: some .u8 :: some .u8 :: some .u8 :: some .u8 :: some .u8 :: some .u8 :: some .u8 :: some .u8 :: some .u8 :: some .u8 :: some .u8 :: some .u8 :: some .u8 :: some .u8 :: some .u8 :: some .u8 :: some .u8 :: some .u8 :: some .u8 :: some .u8 :: some .u8 :: some .u8 :: some .u8 :: some .u8 :: some .u8 :: some .u8 :: some .u8 :: some .u8 :: some .u8 :: some .u8 :: some .u8 :: some .u8 :: some .u8 :: some .u8 :: some .u8 :: some .u8 :: some .u8 :: some .u8 :: some .u8 :: some .u8 :: some .u8 :: some .u8 :: some .u8 :: some .u8 :: some .u8 :: some .u8 :: some .u8 :: some .u8 :: some .u8 :: some .u8 :: some .u8 :: some .u8 :: some .u8 :: some .u8 :: t
def ck_Snap (t : List CK) : List CK := .int .u64 :: .int .u64 :: .int .u64 :: .int .u64 :: .int .u64 :: .int .u64 :: .int .u64 :: .int .u64 :: .int .u64 :: .int .u64 :: .int .u64 :: .int .i64 :: .int .u8 :: .int .u8 :: .int .u8 :: .int .u8 :: .int .u8 :: .int .u8 :: .int .u8 :: .int .u8 :: .int .u8 :: .int .u8 :: .int .u8 :: .int .u8 :: .int .u8 :: .int .u8 :: .int .u8 :: .int .u8 :: .int .u8 :: .int .u8 :: .int .u8 :: .int .u8 :: .int .u8 :: .int .u8 :: .int .u8 :: .int .u8 :: .int .u8 :: .int .u8 :: .int .u8 :: .int .u8 :: .int .u8 :: .int .u8 :: .int .u8 :: .int .u8 :: .int .u8 :: .int .u8 :: .int .u8 :: .int .u8 :: .int .u8 :: .int .u8 :: .int .u8 :: .int .u8 :: .int .u8 :: .int .u8 :: .int .u8 :: .int .u8 :: .int .u8 :: .int .u8 :: .int .u8 :: .int .u8 :: .int .u8 :: .int .u8 :: .int .u8 :: .int .u8 :: .int .u8 :: .int .u8 :: .int .u8 :: .int .u8 :: .int .u8 :: .int .u8 :: .int .u8 :: .int .u8 :: .int .u8 :: .int .u8 :: .int .u8 :: .int .u8 :: t
set_option maxRecDepth 100000 in
theorem row_Snap {ks : List CE} {q : List Int} (h : rowIn (ec_Snap ks) q = true) : ∃ (a : Snap) (q' : List Int), Snap.ok a ∧ rowIn ks q' = true ∧ ∀ (w : World) (cs : List CK) (xs r : List Dt), cksRel w cs xs (rowV ks q') r → cksRel w (ck_Snap cs) (d_Snap a xs) (rowV (ec_Snap ks) q) r := by
  obtain ⟨y0, q, rfl, e0, h⟩ := rowIn_cons h
  obtain ⟨y1, q, rfl, e1, h⟩ := rowIn_cons h
  obtain ⟨y2, q, rfl, e2, h⟩ := rowIn_cons h
  obtain ⟨y3, q, rfl, e3, h⟩ := rowIn_cons h
  obtain ⟨y4, q, rfl, e4, h⟩ := rowIn_cons h
  obtain ⟨y5, q, rfl, e5, h⟩ := rowIn_cons h
  obtain ⟨y6, q, rfl, e6, h⟩ := rowIn_cons h
  obtain ⟨y7, q, rfl, e7, h⟩ := rowIn_cons h
  obtain ⟨y8, q, rfl, e8, h⟩ := rowIn_cons h
  obtain ⟨y9, q, rfl, e9, h⟩ := rowIn_cons h
  obtain ⟨y10, q, rfl, e10, h⟩ := rowIn_cons h
  obtain ⟨y11, q, rfl, e11, h⟩ := rowIn_cons h
  obtain ⟨y12, q, rfl, e12, h⟩ := rowIn_cons h
  obtain ⟨y13, q, rfl, e13, h⟩ := rowIn_cons h
  obtain ⟨y14, q, rfl, e14, h⟩ := rowIn_cons h
  obtain ⟨y15, q, rfl, e15, h⟩ := rowIn_cons h
  obtain ⟨y16, q, rfl, e16, h⟩ := rowIn_cons h
  obtain ⟨y17, q, rfl, e17, h⟩ := rowIn_cons h
  obtain ⟨y18, q, rfl, e18, h⟩ := rowIn_cons h
  obtain ⟨y19, q, rfl, e19, h⟩ := rowIn_cons h
  obtain ⟨y20, q, rfl, e20, h⟩ := rowIn_cons h
  obtain ⟨y21, q, rfl, e21, h⟩ := rowIn_cons h
  obtain ⟨y22, q, rfl, e22, h⟩ := rowIn_cons h
  obtain ⟨y23, q, rfl, e23, h⟩ := rowIn_cons h
  obtain ⟨y24, q, rfl, e24, h⟩ := rowIn_cons h
  obtain ⟨y25, q, rfl, e25, h⟩ := rowIn_cons h
  obtain ⟨y26, q, rfl, e26, h⟩ := rowIn_cons h
  obtain ⟨y27, q, rfl, e27, h⟩ := rowIn_cons h
  obtain ⟨y28, q, rfl, e28, h⟩ := rowIn_cons h
  obtain ⟨y29, q, rfl, e29, h⟩ := rowIn_cons h
  obtain ⟨y30, q, rfl, e30, h⟩ := rowIn_cons h
  obtain ⟨y31, q, rfl, e31, h⟩ := rowIn_cons h
  obtain ⟨y32, q, rfl, e32, h⟩ := rowIn_cons h
  obtain ⟨y33, q, rfl, e33, h⟩ := rowIn_cons h
  obtain ⟨y34, q, rfl, e34, h⟩ := rowIn_cons h
  obtain ⟨y35, q, rfl, e35, h⟩ := rowIn_cons h
  obtain ⟨y36, q, rfl, e36, h⟩ := rowIn_cons h
  obtain ⟨y37, q, rfl, e37, h⟩ := rowIn_cons h
  obtain ⟨y38, q, rfl, e38, h⟩ := rowIn_cons h
  obtain ⟨y39, q, rfl, e39, h⟩ := rowIn_cons h
  obtain ⟨y40, q, rfl, e40, h⟩ := rowIn_cons h
  obtain ⟨y41, q, rfl, e41, h⟩ := rowIn_cons h
  obtain ⟨y42, q, rfl, e42, h⟩ := rowIn_cons h
  obtain ⟨y43, q, rfl, e43, h⟩ := rowIn_cons h
  obtain ⟨y44, q, rfl, e44, h⟩ := rowIn_cons h
  obtain ⟨y45, q, rfl, e45, h⟩ := rowIn_cons h
  obtain ⟨y46, q, rfl, e46, h⟩ := rowIn_cons h
  obtain ⟨y47, q, rfl, e47, h⟩ := rowIn_cons h
  obtain ⟨y48, q, rfl, e48, h⟩ := rowIn_cons h
  obtain ⟨y49, q, rfl, e49, h⟩ := rowIn_cons h
  obtain ⟨y50, q, rfl, e50, h⟩ := rowIn_cons h
  obtain ⟨y51, q, rfl, e51, h⟩ := rowIn_cons h
  obtain ⟨y52, q, rfl, e52, h⟩ := rowIn_cons h
  obtain ⟨y53, q, rfl, e53, h⟩ := rowIn_cons h
  obtain ⟨y54, q, rfl, e54, h⟩ := rowIn_cons h
  obtain ⟨y55, q, rfl, e55, h⟩ := rowIn_cons h
  obtain ⟨y56, q, rfl, e56, h⟩ := rowIn_cons h
  obtain ⟨y57, q, rfl, e57, h⟩ := rowIn_cons h
  obtain ⟨y58, q, rfl, e58, h⟩ := rowIn_cons h
  obtain ⟨y59, q, rfl, e59, h⟩ := rowIn_cons h
  obtain ⟨y60, q, rfl, e60, h⟩ := rowIn_cons h
  obtain ⟨y61, q, rfl, e61, h⟩ := rowIn_cons h
  obtain ⟨y62, q, rfl, e62, h⟩ := rowIn_cons h
  obtain ⟨y63, q, rfl, e63, h⟩ := rowIn_cons h
  obtain ⟨y64, q, rfl, e64, h⟩ := rowIn_cons h
  obtain ⟨y65, q, rfl, e65, h⟩ := rowIn_cons h
  obtain ⟨y66, q, rfl, e66, h⟩ := rowIn_cons h
  obtain ⟨y67, q, rfl, e67, h⟩ := rowIn_cons h
  obtain ⟨y68, q, rfl, e68, h⟩ := rowIn_cons h
  obtain ⟨y69, q, rfl, e69, h⟩ := rowIn_cons h
  obtain ⟨y70, q, rfl, e70, h⟩ := rowIn_cons h
  obtain ⟨y71, q, rfl, e71, h⟩ := rowIn_cons h
  obtain ⟨y72, q, rfl, e72, h⟩ := rowIn_cons h
  obtain ⟨y73, q, rfl, e73, h⟩ := rowIn_cons h
  obtain ⟨y74, q, rfl, e74, h⟩ := rowIn_cons h
  obtain ⟨y75, q, rfl, e75, h⟩ := rowIn_cons h
  exact ⟨⟨y0, y1, y2, y3, y4, y5, y6, y7, y8, y9, y10, y11, y12, y13, y14, y15, y16, y17, y18, y19, y20, y21, y22, y23, y24, y25, y26, y27, y28, y29, y30, y31, y32, y33, y34, y35, y36, y37, y38, y39, y40, y41, y42, y43, y44, y45, y46, y47, y48, y49, y50, y51, y52, y53, y54, y55, y56, y57, y58, y59, y60, y61, y62, y63, y64, y65, y66, y67, y68, y69, y70, y71, y72, y73, y74, y75⟩, q, ⟨e0, e1, e2, e3, e4, e5, e6, e7, e8, e9, e10, e11, e12, e13, e14, e15, e16, e17, e18, e19, e20, e21, e22, e23, e24, e25, e26, e27, e28, e29, e30, e31, e32, e33, e34, e35, e36, e37, e38, e39, e40, e41, e42, e43, e44, e45, e46, e47, e48, e49, e50, e51, e52, e53, e54, e55, e56, e57, e58, e59, e60, e61, e62, e63, e64, e65, e66, e67, e68, e69, e70, e71, e72, e73, e74, e75⟩, h, fun w cs xs r hr => ⟨_, _, _, rfl, ⟨_, rfl, rfl, e0⟩, ⟨_, _, _, rfl, ⟨_, rfl, rfl, e1⟩, ⟨_, _, _, rfl, ⟨_, rfl, rfl, e2⟩, ⟨_, _, _, rfl, ⟨_, rfl, rfl, e3⟩, ⟨_, _, _, rfl, ⟨_, rfl, rfl, e4⟩, ⟨_, _, _, rfl, ⟨_, rfl, rfl, e5⟩, ⟨_, _, _, rfl, ⟨_, rfl, rfl, e6⟩, ⟨_, _, _, rfl, ⟨_, rfl, rfl, e7⟩, ⟨_, _, _, rfl, ⟨_, rfl, rfl, e8⟩, ⟨_, _, _, rfl, ⟨_, rfl, rfl, e9⟩, ⟨_, _, _, rfl, ⟨_, rfl, rfl, e10⟩, ⟨_, _, _, rfl, ⟨_, rfl, rfl, e11⟩, ⟨_, _, _, rfl, ⟨_, rfl, rfl, e12⟩, ⟨_, _, _, rfl, ⟨_, rfl, rfl, e13⟩, ⟨_, _, _, rfl, ⟨_, rfl, rfl, e14⟩, ⟨_, _, _, rfl, ⟨_, rfl, rfl, e15⟩, ⟨_, _, _, rfl, ⟨_, rfl, rfl, e16⟩, ⟨_, _, _, rfl, ⟨_, rfl, rfl, e17⟩, ⟨_, _, _, rfl, ⟨_, rfl, rfl, e18⟩, ⟨_, _, _, rfl, ⟨_, rfl, rfl, e19⟩, ⟨_, _, _, rfl, ⟨_, rfl, rfl, e20⟩, ⟨_, _, _, rfl, ⟨_, rfl, rfl, e21⟩, ⟨_, _, _, rfl, ⟨_, rfl, rfl, e22⟩, ⟨_, _, _, rfl, ⟨_, rfl, rfl, e23⟩, ⟨_, _, _, rfl, ⟨_, rfl, rfl, e24⟩, ⟨_, _, _, rfl, ⟨_, rfl, rfl, e25⟩, ⟨_, _, _, rfl, ⟨_, rfl, rfl, e26⟩, ⟨_, _, _, rfl, ⟨_, rfl, rfl, e27⟩, ⟨_, _, _, rfl, ⟨_, rfl, rfl, e28⟩, ⟨_, _, _, rfl, ⟨_, rfl, rfl, e29⟩, ⟨_, _, _, rfl, ⟨_, rfl, rfl, e30⟩, ⟨_, _, _, rfl, ⟨_, rfl, rfl, e31⟩, ⟨_, _, _, rfl, ⟨_, rfl, rfl, e32⟩, ⟨_, _, _, rfl, ⟨_, rfl, rfl, e33⟩, ⟨_, _, _, rfl, ⟨_, rfl, rfl, e34⟩, ⟨_, _, _, rfl, ⟨_, rfl, rfl, e35⟩, ⟨_, _, _, rfl, ⟨_, rfl, rfl, e36⟩, ⟨_, _, _, rfl, ⟨_, rfl, rfl, e37⟩, ⟨_, _, _, rfl, ⟨_, rfl, rfl, e38⟩, ⟨_, _, _, rfl, ⟨_, rfl, rfl, e39⟩, ⟨_, _, _, rfl, ⟨_, rfl, rfl, e40⟩, ⟨_, _, _, rfl, ⟨_, rfl, rfl, e41⟩, ⟨_, _, _, rfl, ⟨_, rfl, rfl, e42⟩, ⟨_, _, _, rfl, ⟨_, rfl, rfl, e43⟩, ⟨_, _, _, rfl, ⟨_, rfl, rfl, e44⟩, ⟨_, _, _, rfl, ⟨_, rfl, rfl, e45⟩, ⟨_, _, _, rfl, ⟨_, rfl, rfl, e46⟩, ⟨_, _, _, rfl, ⟨_, rfl, rfl, e47⟩, ⟨_, _, _, rfl, ⟨_, rfl, rfl, e48⟩, ⟨_, _, _, rfl, ⟨_, rfl, rfl, e49⟩, ⟨_, _, _, rfl, ⟨_, rfl, rfl, e50⟩, ⟨_, _, _, rfl, ⟨_, rfl, rfl, e51⟩, ⟨_, _, _, rfl, ⟨_, rfl, rfl, e52⟩, ⟨_, _, _, rfl, ⟨_, rfl, rfl, e53⟩, ⟨_, _, _, rfl, ⟨_, rfl, rfl, e54⟩, ⟨_, _, _, rfl, ⟨_, rfl, rfl, e55⟩, ⟨_, _, _, rfl, ⟨_, rfl, rfl, e56⟩, ⟨_, _, _, rfl, ⟨_, rfl, rfl, e57⟩, ⟨_, _, _, rfl, ⟨_, rfl, rfl, e58⟩, ⟨_, _, _, rfl, ⟨_, rfl, rfl, e59⟩, ⟨_, _, _, rfl, ⟨_, rfl, rfl, e60⟩, ⟨_, _, _, rfl, ⟨_, rfl, rfl, e61⟩, ⟨_, _, _, rfl, ⟨_, rfl, rfl, e62⟩, ⟨_, _, _, rfl, ⟨_, rfl, rfl, e63⟩, ⟨_, _, _, rfl, ⟨_, rfl, rfl, e64⟩, ⟨_, _, _, rfl, ⟨_, rfl, rfl, e65⟩, ⟨_, _, _, rfl, ⟨_, rfl, rfl, e66⟩, ⟨_, _, _, rfl, ⟨_, rfl, rfl, e67⟩, ⟨_, _, _, rfl, ⟨_, rfl, rfl, e68⟩, ⟨_, _, _, rfl, ⟨_, rfl, rfl, e69⟩, ⟨_, _, _, rfl, ⟨_, rfl, rfl, e70⟩, ⟨_, _, _, rfl, ⟨_, rfl, rfl, e71⟩, ⟨_, _, _, rfl, ⟨_, rfl, rfl, e72⟩, ⟨_, _, _, rfl, ⟨_, rfl, rfl, e73⟩, ⟨_, _, _, rfl, ⟨_, rfl, rfl, e74⟩, ⟨_, _, _, rfl, ⟨_, rfl, rfl, e75⟩, hr⟩⟩⟩⟩⟩⟩⟩⟩⟩⟩⟩⟩⟩⟩⟩⟩⟩⟩⟩⟩⟩⟩⟩⟩⟩⟩⟩⟩⟩⟩⟩⟩⟩⟩⟩⟩⟩⟩⟩⟩⟩⟩⟩⟩⟩⟩⟩⟩⟩⟩⟩⟩⟩⟩⟩⟩⟩⟩⟩⟩⟩⟩⟩⟩⟩⟩⟩⟩⟩⟩⟩⟩⟩⟩⟩⟩⟩
set_option maxRecDepth 100000 in
theorem arg_Snap {q : List Int} (h : rowIn (ec_Snap []) q = true) : ∃ a : Snap, Snap.ok a ∧ ∀ (w : World) (r : List Dt), cksRel w kSnap (d_Snap a r) (rowV (ec_Snap []) q) r := by
  obtain ⟨a, q', o, h, s⟩ := row_Snap h
  obtain rfl := rowIn_nil h
  exact ⟨a, o, fun w r => s w [] _ _ ⟨rfl, rfl⟩⟩
set_option maxRecDepth 100000 in
set_option maxHeartbeats 8000000 in
theorem law_StateTells {H : Type} {enc : TypeId × Value → H} {W : World} {r : Reach} {b0 : Nat} (v0 : Value) (k0 : Value.okWide Try.prog W r b0 35 v0) (d0 : DataW H) (p0 : List MemPlace) (h0 : DataW.Trod enc Try.prog W 0 (fun _ => true) true 35 v0 d0 p0) (_ : ∀ x ∈ p0, x.block < W.heap.size) (v1 : Value) (k1 : Value.okWide Try.prog W r b0 31 v1) (d1 : DataW H) (p1 : List MemPlace) (h1 : DataW.Trod enc Try.prog W 0 (fun _ => true) true 31 v1 d1 p1) (_ : ∀ x ∈ p1, x.block < W.heap.size) (v2 : Value) (k2 : Value.okWide Try.prog W r b0 44 v2) (d2 : DataW H) (p2 : List MemPlace) (h2 : DataW.Trod enc Try.prog W 0 (fun _ => true) true 44 v2 d2 p2) (_ : ∀ x ∈ p2, x.block < W.heap.size) (a3 : Int) (w3 : (Lit.int .u64 a3).wf = true) (a4 : Int) (w4 : (Lit.int .i64 a4).wf = true) (a5 : Int) (w5 : (Lit.int .i64 a5).wf = true) (a6 : Int) (w6 : (Lit.int .i64 a6).wf = true) :
    Calls Try.prog 5 #[v0, v1, v2, .int .u64 a3, .int .i64 a4, .int .i64 a5, .int .i64 a6] W fun e W' => e = .returned (.bool true) ∧ Below W.heap.size W W' := by
  obtain ⟨q0, rfl, g0⟩ := agg_of_arg rwSta Try.underlying35 k0 h0
  obtain ⟨a0, o0, s0⟩ := arg_Sta g0
  obtain ⟨q1, rfl, g1⟩ := agg_of_arg rwTy Try.underlying31 k1 h1
  obtain ⟨a1, o1, s1⟩ := arg_Ty g1
  obtain ⟨q2, rfl, g2⟩ := agg_of_arg rwSnap Try.underlying44 k2 h2
  obtain ⟨a2, o2, s2⟩ := arg_Snap g2
  refine (sC_stells (d_Sta a0 ( d_Ty a1 ( d_Snap a2 ( .z a3 :: ( .z a4 :: ( .z a5 :: ( .z a6 :: ([])))))))) _ W ⟨_, _, _, rfl, s0 W _, ⟨_, _, _, rfl, s1 W _, ⟨_, _, _, rfl, s2 W _, ⟨_, _, _, rfl, ⟨_, rfl, rfl, (inK_of_wf w3)⟩, ⟨_, _, _, rfl, ⟨_, rfl, rfl, (inK_of_wf w4)⟩, ⟨_, _, _, rfl, ⟨_, rfl, rfl, (inK_of_wf w5)⟩, ⟨_, _, _, rfl, ⟨_, rfl, rfl, (inK_of_wf w6)⟩, ⟨rfl, rfl⟩⟩⟩⟩⟩⟩⟩⟩).mono fun e W' ⟨v, he, hr⟩ => ?_
  have hv : v = .bool true := RetOk.says hr
  rw [he, hv]
  exact ⟨rfl, hr.ext⟩
end Go.Proofs.Ytcfnglbcgkappaa

