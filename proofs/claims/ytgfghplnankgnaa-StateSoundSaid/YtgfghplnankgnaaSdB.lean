/- Contracts of package state, the small functions, by the symbolic run. -/
import Derived.Test.YtgfghplnankgnaaSdW
import Derived.Test.YtgfghplnankgnaaVaY
import Derived.Test.YtgfghplnankgnaaProg
import Derived.Laws.Externs
set_option linter.unusedVariables false
set_option linter.unusedSimpArgs false
namespace Go.Proofs.Ytgfghplnankgnaa
open Go.RowKit Go.ChangeShapes Go.WideShapes

def rdZ (k : Int → List Dt → List Dt) : List Dt → List Dt
  | .z x :: r => k x r
  | _ => []
def rdB (k : Bool → List Dt → List Dt) : List Dt → List Dt
  | .z x :: r => k (x == 1) r
  | _ => []
def rd8 (k : Int → Int → Int → Int → Int → Int → Int → Int → List Dt → List Dt) : List Dt → List Dt
  | .z a :: .z b :: .z c :: .z d :: .z e :: .z f :: .z g :: .z h :: r => k a b c d e f g h r
  | _ => []
theorem Ty.eta (a : Ty) : (⟨a.k, a.ul, a.uh, a.sl, a.sh, a.v, a.m, a.lo, a.hi⟩ : Ty) = a := rfl
def rd_Ty (k : Ty → List Dt → List Dt) : List Dt → List Dt
  | .z z0 :: .z z1 :: .z z2 :: .z z3 :: .z z4 :: .z z5 :: .z z6 :: .z z7 :: .z z8 :: r => k ⟨z0, z1, z2, z3, z4, z5, z6, z7, z8⟩ r
  | _ => []
def Ty.ok (a : Ty) : Prop := inK .i8 a.k = true ∧ inK .u64 a.ul = true ∧ inK .u64 a.uh = true ∧ inK .i64 a.sl = true ∧ inK .i64 a.sh = true ∧ inK .u64 a.v = true ∧ inK .u64 a.m = true ∧ inK .i64 a.lo = true ∧ inK .i64 a.hi = true
def kTy : List CK := [.int .i8, .int .u64, .int .u64, .int .i64, .int .i64, .int .u64, .int .u64, .int .i64, .int .i64]
set_option maxRecDepth 100000 in
def v_Ty (t : List VK) : List VK := .int .i8 :: .int .u64 :: .int .u64 :: .int .i64 :: .int .i64 :: .int .u64 :: .int .u64 :: .int .i64 :: .int .i64 :: t
set_option maxRecDepth 100000 in
def d_Ty (a : Ty) (t : List Dt) : List Dt := .z a.k :: .z a.ul :: .z a.uh :: .z a.sl :: .z a.sh :: .z a.v :: .z a.m :: .z a.lo :: .z a.hi :: t
set_option maxRecDepth 100000 in
theorem for_Ty {l : List VK} {p : List Dt → Prop} (h : ∀ a : Ty, Ty.ok a → ForArgs l fun r => p (d_Ty a r)) : ForArgs (v_Ty l) p :=
  fun x0 gx0 x1 gx1 x2 gx2 x3 gx3 x4 gx4 x5 gx5 x6 gx6 x7 gx7 x8 gx8 => h ⟨x0, x1, x2, x3, x4, x5, x6, x7, x8⟩ ⟨gx0, gx1, gx2, gx3, gx4, gx5, gx6, gx7, gx8⟩
set_option maxRecDepth 100000 in
theorem rd_Ty_d (k : Ty → List Dt → List Dt) (a : Ty) (t : List Dt) : rd_Ty k (d_Ty a t) = k a t := rfl
theorem Sta.eta (a : Sta) : (⟨a.r0, a.r1, a.r2, a.r3, a.r4, a.r5, a.r6, a.r7, a.r8, a.r9, a.r10, a.s0, a.s1, a.s2, a.s3, a.s4, a.s5, a.s6, a.s7⟩ : Sta) = a := rfl
def rd_Sta (k : Sta → List Dt → List Dt) : List Dt → List Dt := rd_Ty fun r0 => rd_Ty fun r1 => rd_Ty fun r2 => rd_Ty fun r3 => rd_Ty fun r4 => rd_Ty fun r5 => rd_Ty fun r6 => rd_Ty fun r7 => rd_Ty fun r8 => rd_Ty fun r9 => rd_Ty fun r10 => rd_Ty fun s0 => rd_Ty fun s1 => rd_Ty fun s2 => rd_Ty fun s3 => rd_Ty fun s4 => rd_Ty fun s5 => rd_Ty fun s6 => rd_Ty fun s7 => fun r => k ⟨r0, r1, r2, r3, r4, r5, r6, r7, r8, r9, r10, s0, s1, s2, s3, s4, s5, s6, s7⟩ r
def Sta.ok (a : Sta) : Prop := Ty.ok a.r0 ∧ Ty.ok a.r1 ∧ Ty.ok a.r2 ∧ Ty.ok a.r3 ∧ Ty.ok a.r4 ∧ Ty.ok a.r5 ∧ Ty.ok a.r6 ∧ Ty.ok a.r7 ∧ Ty.ok a.r8 ∧ Ty.ok a.r9 ∧ Ty.ok a.r10 ∧ Ty.ok a.s0 ∧ Ty.ok a.s1 ∧ Ty.ok a.s2 ∧ Ty.ok a.s3 ∧ Ty.ok a.s4 ∧ Ty.ok a.s5 ∧ Ty.ok a.s6 ∧ Ty.ok a.s7
def kSta : List CK := [.int .i8, .int .u64, .int .u64, .int .i64, .int .i64, .int .u64, .int .u64, .int .i64, .int .i64, .int .i8, .int .u64, .int .u64, .int .i64, .int .i64, .int .u64, .int .u64, .int .i64, .int .i64, .int .i8, .int .u64, .int .u64, .int .i64, .int .i64, .int .u64, .int .u64, .int .i64, .int .i64, .int .i8, .int .u64, .int .u64, .int .i64, .int .i64, .int .u64, .int .u64, .int .i64, .int .i64, .int .i8, .int .u64, .int .u64, .int .i64, .int .i64, .int .u64, .int .u64, .int .i64, .int .i64, .int .i8, .int .u64, .int .u64, .int .i64, .int .i64, .int .u64, .int .u64, .int .i64, .int .i64, .int .i8, .int .u64, .int .u64, .int .i64, .int .i64, .int .u64, .int .u64, .int .i64, .int .i64, .int .i8, .int .u64, .int .u64, .int .i64, .int .i64, .int .u64, .int .u64, .int .i64, .int .i64, .int .i8, .int .u64, .int .u64, .int .i64, .int .i64, .int .u64, .int .u64, .int .i64, .int .i64, .int .i8, .int .u64, .int .u64, .int .i64, .int .i64, .int .u64, .int .u64, .int .i64, .int .i64, .int .i8, .int .u64, .int .u64, .int .i64, .int .i64, .int .u64, .int .u64, .int .i64, .int .i64, .int .i8, .int .u64, .int .u64, .int .i64, .int .i64, .int .u64, .int .u64, .int .i64, .int .i64, .int .i8, .int .u64, .int .u64, .int .i64, .int .i64, .int .u64, .int .u64, .int .i64, .int .i64, .int .i8, .int .u64, .int .u64, .int .i64, .int .i64, .int .u64, .int .u64, .int .i64, .int .i64, .int .i8, .int .u64, .int .u64, .int .i64, .int .i64, .int .u64, .int .u64, .int .i64, .int .i64, .int .i8, .int .u64, .int .u64, .int .i64, .int .i64, .int .u64, .int .u64, .int .i64, .int .i64, .int .i8, .int .u64, .int .u64, .int .i64, .int .i64, .int .u64, .int .u64, .int .i64, .int .i64, .int .i8, .int .u64, .int .u64, .int .i64, .int .i64, .int .u64, .int .u64, .int .i64, .int .i64, .int .i8, .int .u64, .int .u64, .int .i64, .int .i64, .int .u64, .int .u64, .int .i64, .int .i64]
def v_Sta (t : List VK) : List VK := v_Ty (v_Ty (v_Ty (v_Ty (v_Ty (v_Ty (v_Ty (v_Ty (v_Ty (v_Ty (v_Ty (v_Ty (v_Ty (v_Ty (v_Ty (v_Ty (v_Ty (v_Ty (v_Ty (t)))))))))))))))))))
def d_Sta (a : Sta) (t : List Dt) : List Dt := d_Ty a.r0 (d_Ty a.r1 (d_Ty a.r2 (d_Ty a.r3 (d_Ty a.r4 (d_Ty a.r5 (d_Ty a.r6 (d_Ty a.r7 (d_Ty a.r8 (d_Ty a.r9 (d_Ty a.r10 (d_Ty a.s0 (d_Ty a.s1 (d_Ty a.s2 (d_Ty a.s3 (d_Ty a.s4 (d_Ty a.s5 (d_Ty a.s6 (d_Ty a.s7 (t)))))))))))))))))))
theorem for_Sta {l : List VK} {p : List Dt → Prop} (h : ∀ a : Sta, Sta.ok a → ForArgs l fun r => p (d_Sta a r)) : ForArgs (v_Sta l) p :=
  for_Ty fun r0 hr0 => for_Ty fun r1 hr1 => for_Ty fun r2 hr2 => for_Ty fun r3 hr3 => for_Ty fun r4 hr4 => for_Ty fun r5 hr5 => for_Ty fun r6 hr6 => for_Ty fun r7 hr7 => for_Ty fun r8 hr8 => for_Ty fun r9 hr9 => for_Ty fun r10 hr10 => for_Ty fun s0 hs0 => for_Ty fun s1 hs1 => for_Ty fun s2 hs2 => for_Ty fun s3 hs3 => for_Ty fun s4 hs4 => for_Ty fun s5 hs5 => for_Ty fun s6 hs6 => for_Ty fun s7 hs7 => h ⟨r0, r1, r2, r3, r4, r5, r6, r7, r8, r9, r10, s0, s1, s2, s3, s4, s5, s6, s7⟩ ⟨hr0, hr1, hr2, hr3, hr4, hr5, hr6, hr7, hr8, hr9, hr10, hs0, hs1, hs2, hs3, hs4, hs5, hs6, hs7⟩
theorem rd_Sta_d (k : Sta → List Dt → List Dt) (a : Sta) (t : List Dt) : rd_Sta k (d_Sta a t) = k a t := by
  simp only [rd_Sta, d_Sta, rd_Ty_d]
theorem Snap.eta (a : Snap) : (⟨a.r0, a.r1, a.r2, a.r3, a.r4, a.r5, a.r6, a.r7, a.r8, a.r9, a.r10, a.set, a.f0, a.f1, a.f2, a.f3, a.f4, a.f5, a.f6, a.f7, a.f8, a.f9, a.f10, a.f11, a.f12, a.f13, a.f14, a.f15, a.f16, a.f17, a.f18, a.f19, a.f20, a.f21, a.f22, a.f23, a.f24, a.f25, a.f26, a.f27, a.f28, a.f29, a.f30, a.f31, a.f32, a.f33, a.f34, a.f35, a.f36, a.f37, a.f38, a.f39, a.f40, a.f41, a.f42, a.f43, a.f44, a.f45, a.f46, a.f47, a.f48, a.f49, a.f50, a.f51, a.f52, a.f53, a.f54, a.f55, a.f56, a.f57, a.f58, a.f59, a.f60, a.f61, a.f62, a.f63⟩ : Snap) = a := rfl
def rd_Snap (k : Snap → List Dt → List Dt) : List Dt → List Dt := rd8 fun z0 z1 z2 z3 z4 z5 z6 z7 => rd8 fun z8 z9 z10 z11 z12 z13 z14 z15 => rd8 fun z16 z17 z18 z19 z20 z21 z22 z23 => rd8 fun z24 z25 z26 z27 z28 z29 z30 z31 => rd8 fun z32 z33 z34 z35 z36 z37 z38 z39 => rd8 fun z40 z41 z42 z43 z44 z45 z46 z47 => rd8 fun z48 z49 z50 z51 z52 z53 z54 z55 => rd8 fun z56 z57 z58 z59 z60 z61 z62 z63 => rd8 fun z64 z65 z66 z67 z68 z69 z70 z71 => rdZ fun z72 => rdZ fun z73 => rdZ fun z74 => rdZ fun z75 => fun r => k ⟨z0, z1, z2, z3, z4, z5, z6, z7, z8, z9, z10, z11, z12, z13, z14, z15, z16, z17, z18, z19, z20, z21, z22, z23, z24, z25, z26, z27, z28, z29, z30, z31, z32, z33, z34, z35, z36, z37, z38, z39, z40, z41, z42, z43, z44, z45, z46, z47, z48, z49, z50, z51, z52, z53, z54, z55, z56, z57, z58, z59, z60, z61, z62, z63, z64, z65, z66, z67, z68, z69, z70, z71, z72, z73, z74, z75⟩ r
def Snap.ok (a : Snap) : Prop := inK .u64 a.r0 = true ∧ inK .u64 a.r1 = true ∧ inK .u64 a.r2 = true ∧ inK .u64 a.r3 = true ∧ inK .u64 a.r4 = true ∧ inK .u64 a.r5 = true ∧ inK .u64 a.r6 = true ∧ inK .u64 a.r7 = true ∧ inK .u64 a.r8 = true ∧ inK .u64 a.r9 = true ∧ inK .u64 a.r10 = true ∧ inK .i64 a.set = true ∧ inK .u8 a.f0 = true ∧ inK .u8 a.f1 = true ∧ inK .u8 a.f2 = true ∧ inK .u8 a.f3 = true ∧ inK .u8 a.f4 = true ∧ inK .u8 a.f5 = true ∧ inK .u8 a.f6 = true ∧ inK .u8 a.f7 = true ∧ inK .u8 a.f8 = true ∧ inK .u8 a.f9 = true ∧ inK .u8 a.f10 = true ∧ inK .u8 a.f11 = true ∧ inK .u8 a.f12 = true ∧ inK .u8 a.f13 = true ∧ inK .u8 a.f14 = true ∧ inK .u8 a.f15 = true ∧ inK .u8 a.f16 = true ∧ inK .u8 a.f17 = true ∧ inK .u8 a.f18 = true ∧ inK .u8 a.f19 = true ∧ inK .u8 a.f20 = true ∧ inK .u8 a.f21 = true ∧ inK .u8 a.f22 = true ∧ inK .u8 a.f23 = true ∧ inK .u8 a.f24 = true ∧ inK .u8 a.f25 = true ∧ inK .u8 a.f26 = true ∧ inK .u8 a.f27 = true ∧ inK .u8 a.f28 = true ∧ inK .u8 a.f29 = true ∧ inK .u8 a.f30 = true ∧ inK .u8 a.f31 = true ∧ inK .u8 a.f32 = true ∧ inK .u8 a.f33 = true ∧ inK .u8 a.f34 = true ∧ inK .u8 a.f35 = true ∧ inK .u8 a.f36 = true ∧ inK .u8 a.f37 = true ∧ inK .u8 a.f38 = true ∧ inK .u8 a.f39 = true ∧ inK .u8 a.f40 = true ∧ inK .u8 a.f41 = true ∧ inK .u8 a.f42 = true ∧ inK .u8 a.f43 = true ∧ inK .u8 a.f44 = true ∧ inK .u8 a.f45 = true ∧ inK .u8 a.f46 = true ∧ inK .u8 a.f47 = true ∧ inK .u8 a.f48 = true ∧ inK .u8 a.f49 = true ∧ inK .u8 a.f50 = true ∧ inK .u8 a.f51 = true ∧ inK .u8 a.f52 = true ∧ inK .u8 a.f53 = true ∧ inK .u8 a.f54 = true ∧ inK .u8 a.f55 = true ∧ inK .u8 a.f56 = true ∧ inK .u8 a.f57 = true ∧ inK .u8 a.f58 = true ∧ inK .u8 a.f59 = true ∧ inK .u8 a.f60 = true ∧ inK .u8 a.f61 = true ∧ inK .u8 a.f62 = true ∧ inK .u8 a.f63 = true
def kSnap : List CK := [.int .u64, .int .u64, .int .u64, .int .u64, .int .u64, .int .u64, .int .u64, .int .u64, .int .u64, .int .u64, .int .u64, .int .i64, .int .u8, .int .u8, .int .u8, .int .u8, .int .u8, .int .u8, .int .u8, .int .u8, .int .u8, .int .u8, .int .u8, .int .u8, .int .u8, .int .u8, .int .u8, .int .u8, .int .u8, .int .u8, .int .u8, .int .u8, .int .u8, .int .u8, .int .u8, .int .u8, .int .u8, .int .u8, .int .u8, .int .u8, .int .u8, .int .u8, .int .u8, .int .u8, .int .u8, .int .u8, .int .u8, .int .u8, .int .u8, .int .u8, .int .u8, .int .u8, .int .u8, .int .u8, .int .u8, .int .u8, .int .u8, .int .u8, .int .u8, .int .u8, .int .u8, .int .u8, .int .u8, .int .u8, .int .u8, .int .u8, .int .u8, .int .u8, .int .u8, .int .u8, .int .u8, .int .u8, .int .u8, .int .u8, .int .u8, .int .u8]
set_option maxRecDepth 100000 in
def v_Snap (t : List VK) : List VK := .int .u64 :: .int .u64 :: .int .u64 :: .int .u64 :: .int .u64 :: .int .u64 :: .int .u64 :: .int .u64 :: .int .u64 :: .int .u64 :: .int .u64 :: .int .i64 :: .int .u8 :: .int .u8 :: .int .u8 :: .int .u8 :: .int .u8 :: .int .u8 :: .int .u8 :: .int .u8 :: .int .u8 :: .int .u8 :: .int .u8 :: .int .u8 :: .int .u8 :: .int .u8 :: .int .u8 :: .int .u8 :: .int .u8 :: .int .u8 :: .int .u8 :: .int .u8 :: .int .u8 :: .int .u8 :: .int .u8 :: .int .u8 :: .int .u8 :: .int .u8 :: .int .u8 :: .int .u8 :: .int .u8 :: .int .u8 :: .int .u8 :: .int .u8 :: .int .u8 :: .int .u8 :: .int .u8 :: .int .u8 :: .int .u8 :: .int .u8 :: .int .u8 :: .int .u8 :: .int .u8 :: .int .u8 :: .int .u8 :: .int .u8 :: .int .u8 :: .int .u8 :: .int .u8 :: .int .u8 :: .int .u8 :: .int .u8 :: .int .u8 :: .int .u8 :: .int .u8 :: .int .u8 :: .int .u8 :: .int .u8 :: .int .u8 :: .int .u8 :: .int .u8 :: .int .u8 :: .int .u8 :: .int .u8 :: .int .u8 :: .int .u8 :: t
set_option maxRecDepth 100000 in
def d_Snap (a : Snap) (t : List Dt) : List Dt := .z a.r0 :: .z a.r1 :: .z a.r2 :: .z a.r3 :: .z a.r4 :: .z a.r5 :: .z a.r6 :: .z a.r7 :: .z a.r8 :: .z a.r9 :: .z a.r10 :: .z a.set :: .z a.f0 :: .z a.f1 :: .z a.f2 :: .z a.f3 :: .z a.f4 :: .z a.f5 :: .z a.f6 :: .z a.f7 :: .z a.f8 :: .z a.f9 :: .z a.f10 :: .z a.f11 :: .z a.f12 :: .z a.f13 :: .z a.f14 :: .z a.f15 :: .z a.f16 :: .z a.f17 :: .z a.f18 :: .z a.f19 :: .z a.f20 :: .z a.f21 :: .z a.f22 :: .z a.f23 :: .z a.f24 :: .z a.f25 :: .z a.f26 :: .z a.f27 :: .z a.f28 :: .z a.f29 :: .z a.f30 :: .z a.f31 :: .z a.f32 :: .z a.f33 :: .z a.f34 :: .z a.f35 :: .z a.f36 :: .z a.f37 :: .z a.f38 :: .z a.f39 :: .z a.f40 :: .z a.f41 :: .z a.f42 :: .z a.f43 :: .z a.f44 :: .z a.f45 :: .z a.f46 :: .z a.f47 :: .z a.f48 :: .z a.f49 :: .z a.f50 :: .z a.f51 :: .z a.f52 :: .z a.f53 :: .z a.f54 :: .z a.f55 :: .z a.f56 :: .z a.f57 :: .z a.f58 :: .z a.f59 :: .z a.f60 :: .z a.f61 :: .z a.f62 :: .z a.f63 :: t
set_option maxRecDepth 100000 in
theorem for_Snap {l : List VK} {p : List Dt → Prop} (h : ∀ a : Snap, Snap.ok a → ForArgs l fun r => p (d_Snap a r)) : ForArgs (v_Snap l) p :=
  fun x0 gx0 x1 gx1 x2 gx2 x3 gx3 x4 gx4 x5 gx5 x6 gx6 x7 gx7 x8 gx8 x9 gx9 x10 gx10 x11 gx11 x12 gx12 x13 gx13 x14 gx14 x15 gx15 x16 gx16 x17 gx17 x18 gx18 x19 gx19 x20 gx20 x21 gx21 x22 gx22 x23 gx23 x24 gx24 x25 gx25 x26 gx26 x27 gx27 x28 gx28 x29 gx29 x30 gx30 x31 gx31 x32 gx32 x33 gx33 x34 gx34 x35 gx35 x36 gx36 x37 gx37 x38 gx38 x39 gx39 x40 gx40 x41 gx41 x42 gx42 x43 gx43 x44 gx44 x45 gx45 x46 gx46 x47 gx47 x48 gx48 x49 gx49 x50 gx50 x51 gx51 x52 gx52 x53 gx53 x54 gx54 x55 gx55 x56 gx56 x57 gx57 x58 gx58 x59 gx59 x60 gx60 x61 gx61 x62 gx62 x63 gx63 x64 gx64 x65 gx65 x66 gx66 x67 gx67 x68 gx68 x69 gx69 x70 gx70 x71 gx71 x72 gx72 x73 gx73 x74 gx74 x75 gx75 => h ⟨x0, x1, x2, x3, x4, x5, x6, x7, x8, x9, x10, x11, x12, x13, x14, x15, x16, x17, x18, x19, x20, x21, x22, x23, x24, x25, x26, x27, x28, x29, x30, x31, x32, x33, x34, x35, x36, x37, x38, x39, x40, x41, x42, x43, x44, x45, x46, x47, x48, x49, x50, x51, x52, x53, x54, x55, x56, x57, x58, x59, x60, x61, x62, x63, x64, x65, x66, x67, x68, x69, x70, x71, x72, x73, x74, x75⟩ ⟨gx0, gx1, gx2, gx3, gx4, gx5, gx6, gx7, gx8, gx9, gx10, gx11, gx12, gx13, gx14, gx15, gx16, gx17, gx18, gx19, gx20, gx21, gx22, gx23, gx24, gx25, gx26, gx27, gx28, gx29, gx30, gx31, gx32, gx33, gx34, gx35, gx36, gx37, gx38, gx39, gx40, gx41, gx42, gx43, gx44, gx45, gx46, gx47, gx48, gx49, gx50, gx51, gx52, gx53, gx54, gx55, gx56, gx57, gx58, gx59, gx60, gx61, gx62, gx63, gx64, gx65, gx66, gx67, gx68, gx69, gx70, gx71, gx72, gx73, gx74, gx75⟩
set_option maxRecDepth 100000 in
theorem rd_Snap_d (k : Snap → List Dt → List Dt) (a : Snap) (t : List Dt) : rd_Snap k (d_Snap a t) = k a t := rfl
structure Fr where
  f0 : Int
  f1 : Int
  f2 : Int
  f3 : Int
  f4 : Int
  f5 : Int
  f6 : Int
  f7 : Int
  f8 : Int
  f9 : Int
  f10 : Int
  f11 : Int
  f12 : Int
  f13 : Int
  f14 : Int
  f15 : Int
  f16 : Int
  f17 : Int
  f18 : Int
  f19 : Int
  f20 : Int
  f21 : Int
  f22 : Int
  f23 : Int
  f24 : Int
  f25 : Int
  f26 : Int
  f27 : Int
  f28 : Int
  f29 : Int
  f30 : Int
  f31 : Int
  f32 : Int
  f33 : Int
  f34 : Int
  f35 : Int
  f36 : Int
  f37 : Int
  f38 : Int
  f39 : Int
  f40 : Int
  f41 : Int
  f42 : Int
  f43 : Int
  f44 : Int
  f45 : Int
  f46 : Int
  f47 : Int
  f48 : Int
  f49 : Int
  f50 : Int
  f51 : Int
  f52 : Int
  f53 : Int
  f54 : Int
  f55 : Int
  f56 : Int
  f57 : Int
  f58 : Int
  f59 : Int
  f60 : Int
  f61 : Int
  f62 : Int
  f63 : Int
theorem Fr.eta (a : Fr) : (⟨a.f0, a.f1, a.f2, a.f3, a.f4, a.f5, a.f6, a.f7, a.f8, a.f9, a.f10, a.f11, a.f12, a.f13, a.f14, a.f15, a.f16, a.f17, a.f18, a.f19, a.f20, a.f21, a.f22, a.f23, a.f24, a.f25, a.f26, a.f27, a.f28, a.f29, a.f30, a.f31, a.f32, a.f33, a.f34, a.f35, a.f36, a.f37, a.f38, a.f39, a.f40, a.f41, a.f42, a.f43, a.f44, a.f45, a.f46, a.f47, a.f48, a.f49, a.f50, a.f51, a.f52, a.f53, a.f54, a.f55, a.f56, a.f57, a.f58, a.f59, a.f60, a.f61, a.f62, a.f63⟩ : Fr) = a := rfl
def rd_Fr (k : Fr → List Dt → List Dt) : List Dt → List Dt := rd8 fun z0 z1 z2 z3 z4 z5 z6 z7 => rd8 fun z8 z9 z10 z11 z12 z13 z14 z15 => rd8 fun z16 z17 z18 z19 z20 z21 z22 z23 => rd8 fun z24 z25 z26 z27 z28 z29 z30 z31 => rd8 fun z32 z33 z34 z35 z36 z37 z38 z39 => rd8 fun z40 z41 z42 z43 z44 z45 z46 z47 => rd8 fun z48 z49 z50 z51 z52 z53 z54 z55 => rd8 fun z56 z57 z58 z59 z60 z61 z62 z63 => fun r => k ⟨z0, z1, z2, z3, z4, z5, z6, z7, z8, z9, z10, z11, z12, z13, z14, z15, z16, z17, z18, z19, z20, z21, z22, z23, z24, z25, z26, z27, z28, z29, z30, z31, z32, z33, z34, z35, z36, z37, z38, z39, z40, z41, z42, z43, z44, z45, z46, z47, z48, z49, z50, z51, z52, z53, z54, z55, z56, z57, z58, z59, z60, z61, z62, z63⟩ r
def Fr.ok (a : Fr) : Prop := inK .u8 a.f0 = true ∧ inK .u8 a.f1 = true ∧ inK .u8 a.f2 = true ∧ inK .u8 a.f3 = true ∧ inK .u8 a.f4 = true ∧ inK .u8 a.f5 = true ∧ inK .u8 a.f6 = true ∧ inK .u8 a.f7 = true ∧ inK .u8 a.f8 = true ∧ inK .u8 a.f9 = true ∧ inK .u8 a.f10 = true ∧ inK .u8 a.f11 = true ∧ inK .u8 a.f12 = true ∧ inK .u8 a.f13 = true ∧ inK .u8 a.f14 = true ∧ inK .u8 a.f15 = true ∧ inK .u8 a.f16 = true ∧ inK .u8 a.f17 = true ∧ inK .u8 a.f18 = true ∧ inK .u8 a.f19 = true ∧ inK .u8 a.f20 = true ∧ inK .u8 a.f21 = true ∧ inK .u8 a.f22 = true ∧ inK .u8 a.f23 = true ∧ inK .u8 a.f24 = true ∧ inK .u8 a.f25 = true ∧ inK .u8 a.f26 = true ∧ inK .u8 a.f27 = true ∧ inK .u8 a.f28 = true ∧ inK .u8 a.f29 = true ∧ inK .u8 a.f30 = true ∧ inK .u8 a.f31 = true ∧ inK .u8 a.f32 = true ∧ inK .u8 a.f33 = true ∧ inK .u8 a.f34 = true ∧ inK .u8 a.f35 = true ∧ inK .u8 a.f36 = true ∧ inK .u8 a.f37 = true ∧ inK .u8 a.f38 = true ∧ inK .u8 a.f39 = true ∧ inK .u8 a.f40 = true ∧ inK .u8 a.f41 = true ∧ inK .u8 a.f42 = true ∧ inK .u8 a.f43 = true ∧ inK .u8 a.f44 = true ∧ inK .u8 a.f45 = true ∧ inK .u8 a.f46 = true ∧ inK .u8 a.f47 = true ∧ inK .u8 a.f48 = true ∧ inK .u8 a.f49 = true ∧ inK .u8 a.f50 = true ∧ inK .u8 a.f51 = true ∧ inK .u8 a.f52 = true ∧ inK .u8 a.f53 = true ∧ inK .u8 a.f54 = true ∧ inK .u8 a.f55 = true ∧ inK .u8 a.f56 = true ∧ inK .u8 a.f57 = true ∧ inK .u8 a.f58 = true ∧ inK .u8 a.f59 = true ∧ inK .u8 a.f60 = true ∧ inK .u8 a.f61 = true ∧ inK .u8 a.f62 = true ∧ inK .u8 a.f63 = true
def kFr : List CK := [.int .u8, .int .u8, .int .u8, .int .u8, .int .u8, .int .u8, .int .u8, .int .u8, .int .u8, .int .u8, .int .u8, .int .u8, .int .u8, .int .u8, .int .u8, .int .u8, .int .u8, .int .u8, .int .u8, .int .u8, .int .u8, .int .u8, .int .u8, .int .u8, .int .u8, .int .u8, .int .u8, .int .u8, .int .u8, .int .u8, .int .u8, .int .u8, .int .u8, .int .u8, .int .u8, .int .u8, .int .u8, .int .u8, .int .u8, .int .u8, .int .u8, .int .u8, .int .u8, .int .u8, .int .u8, .int .u8, .int .u8, .int .u8, .int .u8, .int .u8, .int .u8, .int .u8, .int .u8, .int .u8, .int .u8, .int .u8, .int .u8, .int .u8, .int .u8, .int .u8, .int .u8, .int .u8, .int .u8, .int .u8]
set_option maxRecDepth 100000 in
def v_Fr (t : List VK) : List VK := .int .u8 :: .int .u8 :: .int .u8 :: .int .u8 :: .int .u8 :: .int .u8 :: .int .u8 :: .int .u8 :: .int .u8 :: .int .u8 :: .int .u8 :: .int .u8 :: .int .u8 :: .int .u8 :: .int .u8 :: .int .u8 :: .int .u8 :: .int .u8 :: .int .u8 :: .int .u8 :: .int .u8 :: .int .u8 :: .int .u8 :: .int .u8 :: .int .u8 :: .int .u8 :: .int .u8 :: .int .u8 :: .int .u8 :: .int .u8 :: .int .u8 :: .int .u8 :: .int .u8 :: .int .u8 :: .int .u8 :: .int .u8 :: .int .u8 :: .int .u8 :: .int .u8 :: .int .u8 :: .int .u8 :: .int .u8 :: .int .u8 :: .int .u8 :: .int .u8 :: .int .u8 :: .int .u8 :: .int .u8 :: .int .u8 :: .int .u8 :: .int .u8 :: .int .u8 :: .int .u8 :: .int .u8 :: .int .u8 :: .int .u8 :: .int .u8 :: .int .u8 :: .int .u8 :: .int .u8 :: .int .u8 :: .int .u8 :: .int .u8 :: .int .u8 :: t
set_option maxRecDepth 100000 in
def d_Fr (a : Fr) (t : List Dt) : List Dt := .z a.f0 :: .z a.f1 :: .z a.f2 :: .z a.f3 :: .z a.f4 :: .z a.f5 :: .z a.f6 :: .z a.f7 :: .z a.f8 :: .z a.f9 :: .z a.f10 :: .z a.f11 :: .z a.f12 :: .z a.f13 :: .z a.f14 :: .z a.f15 :: .z a.f16 :: .z a.f17 :: .z a.f18 :: .z a.f19 :: .z a.f20 :: .z a.f21 :: .z a.f22 :: .z a.f23 :: .z a.f24 :: .z a.f25 :: .z a.f26 :: .z a.f27 :: .z a.f28 :: .z a.f29 :: .z a.f30 :: .z a.f31 :: .z a.f32 :: .z a.f33 :: .z a.f34 :: .z a.f35 :: .z a.f36 :: .z a.f37 :: .z a.f38 :: .z a.f39 :: .z a.f40 :: .z a.f41 :: .z a.f42 :: .z a.f43 :: .z a.f44 :: .z a.f45 :: .z a.f46 :: .z a.f47 :: .z a.f48 :: .z a.f49 :: .z a.f50 :: .z a.f51 :: .z a.f52 :: .z a.f53 :: .z a.f54 :: .z a.f55 :: .z a.f56 :: .z a.f57 :: .z a.f58 :: .z a.f59 :: .z a.f60 :: .z a.f61 :: .z a.f62 :: .z a.f63 :: t
set_option maxRecDepth 100000 in
theorem for_Fr {l : List VK} {p : List Dt → Prop} (h : ∀ a : Fr, Fr.ok a → ForArgs l fun r => p (d_Fr a r)) : ForArgs (v_Fr l) p :=
  fun x0 gx0 x1 gx1 x2 gx2 x3 gx3 x4 gx4 x5 gx5 x6 gx6 x7 gx7 x8 gx8 x9 gx9 x10 gx10 x11 gx11 x12 gx12 x13 gx13 x14 gx14 x15 gx15 x16 gx16 x17 gx17 x18 gx18 x19 gx19 x20 gx20 x21 gx21 x22 gx22 x23 gx23 x24 gx24 x25 gx25 x26 gx26 x27 gx27 x28 gx28 x29 gx29 x30 gx30 x31 gx31 x32 gx32 x33 gx33 x34 gx34 x35 gx35 x36 gx36 x37 gx37 x38 gx38 x39 gx39 x40 gx40 x41 gx41 x42 gx42 x43 gx43 x44 gx44 x45 gx45 x46 gx46 x47 gx47 x48 gx48 x49 gx49 x50 gx50 x51 gx51 x52 gx52 x53 gx53 x54 gx54 x55 gx55 x56 gx56 x57 gx57 x58 gx58 x59 gx59 x60 gx60 x61 gx61 x62 gx62 x63 gx63 => h ⟨x0, x1, x2, x3, x4, x5, x6, x7, x8, x9, x10, x11, x12, x13, x14, x15, x16, x17, x18, x19, x20, x21, x22, x23, x24, x25, x26, x27, x28, x29, x30, x31, x32, x33, x34, x35, x36, x37, x38, x39, x40, x41, x42, x43, x44, x45, x46, x47, x48, x49, x50, x51, x52, x53, x54, x55, x56, x57, x58, x59, x60, x61, x62, x63⟩ ⟨gx0, gx1, gx2, gx3, gx4, gx5, gx6, gx7, gx8, gx9, gx10, gx11, gx12, gx13, gx14, gx15, gx16, gx17, gx18, gx19, gx20, gx21, gx22, gx23, gx24, gx25, gx26, gx27, gx28, gx29, gx30, gx31, gx32, gx33, gx34, gx35, gx36, gx37, gx38, gx39, gx40, gx41, gx42, gx43, gx44, gx45, gx46, gx47, gx48, gx49, gx50, gx51, gx52, gx53, gx54, gx55, gx56, gx57, gx58, gx59, gx60, gx61, gx62, gx63⟩
set_option maxRecDepth 100000 in
theorem rd_Fr_d (k : Fr → List Dt → List Dt) (a : Fr) (t : List Dt) : rd_Fr k (d_Fr a t) = k a t := rfl
set_option linter.defProp false in
def etasX := And.intro Fr.eta (And.intro Kn.eta (And.intro Pi.eta (And.intro Pu.eta (And.intro Rg.eta (And.intro Sc.eta (And.intro Snap.eta (And.intro Sta.eta (And.intro Ty.eta (And.intro Sc.eta_r (And.intro Sc.eta_k (And.intro Sc.eta_2 (Ty.eta_s))))))))))))
def z_Sc : List C := [.int .u64 (.lit 0), .int .u64 (.lit 0), .int .i64 (.lit 0), .int .i64 (.lit 0), .int .u64 (.lit 0), .int .u64 (.lit 0)]
theorem grd_Sc : Try.prog.eqGuardType Try.prog.depth 29 = false := by kernel_rfl
theorem cells29_Sc : Try.prog.cellsOf 29 = 6 := by kernel_rfl
theorem cells25_Sc : Try.prog.cellsOf 25 = 4 := by kernel_rfl
theorem cells27_Sc : Try.prog.cellsOf 27 = 2 := by kernel_rfl
theorem cells23_Sc : Try.prog.cellsOf 23 = 1 := by kernel_rfl
theorem cells2_Sc : Try.prog.cellsOf 2 = 1 := by kernel_rfl
set_option maxRecDepth 100000 in
theorem kl_Sc (vs : List Value) (hv : kindsV vs z_Sc) : Try.prog.keyLits 6 29 vs = some (litsOf vs) := by
  obtain ⟨x0, _, rfl, g0, hv⟩ := kindsV_int hv
  obtain ⟨x1, _, rfl, g1, hv⟩ := kindsV_int hv
  obtain ⟨x2, _, rfl, g2, hv⟩ := kindsV_int hv
  obtain ⟨x3, _, rfl, g3, hv⟩ := kindsV_int hv
  obtain ⟨x4, _, rfl, g4, hv⟩ := kindsV_int hv
  obtain ⟨x5, _, rfl, g5, hv⟩ := kindsV_int hv
  obtain rfl := kindsV_nil hv
  simp [Program.keyLits, Try.underlying29, Try.underlying25, Try.underlying27, Try.underlying23, Try.underlying2, cells29_Sc, cells25_Sc, cells27_Sc, cells23_Sc, cells2_Sc, inK_wf, litsOf, g0, g1, g2, g3, g4, g5]
  split
  · simp only [Option.bind_some, Function.comp_apply]
    split
    · rfl
    · rename_i h; exact absurd (by decide) h
  · rename_i h; exact absurd (by decide) h
theorem fm_Sc (vs : List Value) (hv : kindsV vs z_Sc) : (Value.agg vs.toArray).formed Try.prog 29 = true := by
  obtain ⟨x0, _, rfl, g0, hv⟩ := kindsV_int hv
  obtain ⟨x1, _, rfl, g1, hv⟩ := kindsV_int hv
  obtain ⟨x2, _, rfl, g2, hv⟩ := kindsV_int hv
  obtain ⟨x3, _, rfl, g3, hv⟩ := kindsV_int hv
  obtain ⟨x4, _, rfl, g4, hv⟩ := kindsV_int hv
  obtain ⟨x5, _, rfl, g5, hv⟩ := kindsV_int hv
  obtain rfl := kindsV_nil hv
  kernel_rfl
theorem eq_Sc (vs us : List Value) (hv : kindsV vs z_Sc) (hu : kindsV us z_Sc) (w : World) : (Op.equal 29 (.agg vs.toArray) (.agg us.toArray)).run Try.prog w = .ok (eqVs vs us) w :=
  eq_of_keys (by kernel_rfl) fm_Sc 6 kl_Sc vs us hv hu w
def z_Ty : List C := [.int .i8 (.lit 0), .int .u64 (.lit 0), .int .u64 (.lit 0), .int .i64 (.lit 0), .int .i64 (.lit 0), .int .u64 (.lit 0), .int .u64 (.lit 0), .int .i64 (.lit 0), .int .i64 (.lit 0)]
theorem grd_Ty : Try.prog.eqGuardType Try.prog.depth 31 = false := by kernel_rfl
theorem cells31_Ty : Try.prog.cellsOf 31 = 9 := by kernel_rfl
theorem cells22_Ty : Try.prog.cellsOf 22 = 1 := by kernel_rfl
theorem cells29_Ty : Try.prog.cellsOf 29 = 6 := by kernel_rfl
theorem cells25_Ty : Try.prog.cellsOf 25 = 4 := by kernel_rfl
theorem cells27_Ty : Try.prog.cellsOf 27 = 2 := by kernel_rfl
theorem cells23_Ty : Try.prog.cellsOf 23 = 1 := by kernel_rfl
theorem cells2_Ty : Try.prog.cellsOf 2 = 1 := by kernel_rfl
theorem cells3_Ty : Try.prog.cellsOf 3 = 1 := by kernel_rfl
set_option maxRecDepth 100000 in
theorem kl_Ty (vs : List Value) (hv : kindsV vs z_Ty) : Try.prog.keyLits 6 31 vs = some (litsOf vs) := by
  obtain ⟨x0, _, rfl, g0, hv⟩ := kindsV_int hv
  obtain ⟨x1, _, rfl, g1, hv⟩ := kindsV_int hv
  obtain ⟨x2, _, rfl, g2, hv⟩ := kindsV_int hv
  obtain ⟨x3, _, rfl, g3, hv⟩ := kindsV_int hv
  obtain ⟨x4, _, rfl, g4, hv⟩ := kindsV_int hv
  obtain ⟨x5, _, rfl, g5, hv⟩ := kindsV_int hv
  obtain ⟨x6, _, rfl, g6, hv⟩ := kindsV_int hv
  obtain ⟨x7, _, rfl, g7, hv⟩ := kindsV_int hv
  obtain ⟨x8, _, rfl, g8, hv⟩ := kindsV_int hv
  obtain rfl := kindsV_nil hv
  simp [Program.keyLits, Try.underlying31, Try.underlying22, Try.underlying29, Try.underlying25, Try.underlying27, Try.underlying23, Try.underlying2, Try.underlying3, cells31_Ty, cells22_Ty, cells29_Ty, cells25_Ty, cells27_Ty, cells23_Ty, cells2_Ty, cells3_Ty, inK_wf, litsOf, g0, g1, g2, g3, g4, g5, g6, g7, g8]
  repeat (rw [if_pos]; rotate_left; · decide)
  rfl
theorem fm_Ty (vs : List Value) (hv : kindsV vs z_Ty) : (Value.agg vs.toArray).formed Try.prog 31 = true := by
  obtain ⟨x0, _, rfl, g0, hv⟩ := kindsV_int hv
  obtain ⟨x1, _, rfl, g1, hv⟩ := kindsV_int hv
  obtain ⟨x2, _, rfl, g2, hv⟩ := kindsV_int hv
  obtain ⟨x3, _, rfl, g3, hv⟩ := kindsV_int hv
  obtain ⟨x4, _, rfl, g4, hv⟩ := kindsV_int hv
  obtain ⟨x5, _, rfl, g5, hv⟩ := kindsV_int hv
  obtain ⟨x6, _, rfl, g6, hv⟩ := kindsV_int hv
  obtain ⟨x7, _, rfl, g7, hv⟩ := kindsV_int hv
  obtain ⟨x8, _, rfl, g8, hv⟩ := kindsV_int hv
  obtain rfl := kindsV_nil hv
  kernel_rfl
theorem eq_Ty (vs us : List Value) (hv : kindsV vs z_Ty) (hu : kindsV us z_Ty) (w : World) : (Op.equal 31 (.agg vs.toArray) (.agg us.toArray)).run Try.prog w = .ok (eqVs vs us) w :=
  eq_of_keys (by kernel_rfl) fm_Ty 6 kl_Ty vs us hv hu w
def tys_SdB : List (Nat × TI) := [(2, ⟨false, 1, [.int .i64 (.lit 0)], [], none, some .i64, false, false, none, 8, false, none, false⟩),
 (3, ⟨false, 1, [.int .i64 (.lit 0)], [], none, some .i64, false, false, none, 8, false, none, false⟩),
 (22, ⟨false, 1, [.int .i8 (.lit 0)], [], none, some .i8, false, false, none, 1, false, none, false⟩),
 (23, ⟨false, 1, [.int .u64 (.lit 0)], [], none, some .u64, false, false, none, 8, false, none, false⟩),
 (25, ⟨true, 4, [.int .u64 (.lit 0), .int .u64 (.lit 0), .int .i64 (.lit 0), .int .i64 (.lit 0)], [(0, 23), (1, 23), (2, 2), (3, 2)], none, none, false, false, none, 32, false, none, false⟩),
 (27, ⟨true, 2, [.int .u64 (.lit 0), .int .u64 (.lit 0)], [(0, 23), (1, 23)], none, none, false, false, none, 16, false, none, false⟩),
 (29, ⟨true, 6, [.int .u64 (.lit 0), .int .u64 (.lit 0), .int .i64 (.lit 0), .int .i64 (.lit 0), .int .u64 (.lit 0), .int .u64 (.lit 0)], [(0, 25), (4, 27)], none, none, true, false, none, 48, false, none, false⟩),
 (31, ⟨true, 9, [.int .i8 (.lit 0), .int .u64 (.lit 0), .int .u64 (.lit 0), .int .i64 (.lit 0), .int .i64 (.lit 0), .int .u64 (.lit 0), .int .u64 (.lit 0), .int .i64 (.lit 0), .int .i64 (.lit 0)], [(0, 22), (1, 29), (7, 3), (8, 3)], none, none, true, false, none, 72, false, none, false⟩),
 (32, ⟨true, 99, [.int .i8 (.lit 0), .int .u64 (.lit 0), .int .u64 (.lit 0), .int .i64 (.lit 0), .int .i64 (.lit 0), .int .u64 (.lit 0), .int .u64 (.lit 0), .int .i64 (.lit 0), .int .i64 (.lit 0), .int .i8 (.lit 0), .int .u64 (.lit 0), .int .u64 (.lit 0), .int .i64 (.lit 0), .int .i64 (.lit 0), .int .u64 (.lit 0), .int .u64 (.lit 0), .int .i64 (.lit 0), .int .i64 (.lit 0), .int .i8 (.lit 0), .int .u64 (.lit 0), .int .u64 (.lit 0), .int .i64 (.lit 0), .int .i64 (.lit 0), .int .u64 (.lit 0), .int .u64 (.lit 0), .int .i64 (.lit 0), .int .i64 (.lit 0), .int .i8 (.lit 0), .int .u64 (.lit 0), .int .u64 (.lit 0), .int .i64 (.lit 0), .int .i64 (.lit 0), .int .u64 (.lit 0), .int .u64 (.lit 0), .int .i64 (.lit 0), .int .i64 (.lit 0), .int .i8 (.lit 0), .int .u64 (.lit 0), .int .u64 (.lit 0), .int .i64 (.lit 0), .int .i64 (.lit 0), .int .u64 (.lit 0), .int .u64 (.lit 0), .int .i64 (.lit 0), .int .i64 (.lit 0), .int .i8 (.lit 0), .int .u64 (.lit 0), .int .u64 (.lit 0), .int .i64 (.lit 0), .int .i64 (.lit 0), .int .u64 (.lit 0), .int .u64 (.lit 0), .int .i64 (.lit 0), .int .i64 (.lit 0), .int .i8 (.lit 0), .int .u64 (.lit 0), .int .u64 (.lit 0), .int .i64 (.lit 0), .int .i64 (.lit 0), .int .u64 (.lit 0), .int .u64 (.lit 0), .int .i64 (.lit 0), .int .i64 (.lit 0), .int .i8 (.lit 0), .int .u64 (.lit 0), .int .u64 (.lit 0), .int .i64 (.lit 0), .int .i64 (.lit 0), .int .u64 (.lit 0), .int .u64 (.lit 0), .int .i64 (.lit 0), .int .i64 (.lit 0), .int .i8 (.lit 0), .int .u64 (.lit 0), .int .u64 (.lit 0), .int .i64 (.lit 0), .int .i64 (.lit 0), .int .u64 (.lit 0), .int .u64 (.lit 0), .int .i64 (.lit 0), .int .i64 (.lit 0), .int .i8 (.lit 0), .int .u64 (.lit 0), .int .u64 (.lit 0), .int .i64 (.lit 0), .int .i64 (.lit 0), .int .u64 (.lit 0), .int .u64 (.lit 0), .int .i64 (.lit 0), .int .i64 (.lit 0), .int .i8 (.lit 0), .int .u64 (.lit 0), .int .u64 (.lit 0), .int .i64 (.lit 0), .int .i64 (.lit 0), .int .u64 (.lit 0), .int .u64 (.lit 0), .int .i64 (.lit 0), .int .i64 (.lit 0)], [], some (11, 31), none, false, false, none, 792, false, none, false⟩),
 (33, ⟨true, 72, [.int .i8 (.lit 0), .int .u64 (.lit 0), .int .u64 (.lit 0), .int .i64 (.lit 0), .int .i64 (.lit 0), .int .u64 (.lit 0), .int .u64 (.lit 0), .int .i64 (.lit 0), .int .i64 (.lit 0), .int .i8 (.lit 0), .int .u64 (.lit 0), .int .u64 (.lit 0), .int .i64 (.lit 0), .int .i64 (.lit 0), .int .u64 (.lit 0), .int .u64 (.lit 0), .int .i64 (.lit 0), .int .i64 (.lit 0), .int .i8 (.lit 0), .int .u64 (.lit 0), .int .u64 (.lit 0), .int .i64 (.lit 0), .int .i64 (.lit 0), .int .u64 (.lit 0), .int .u64 (.lit 0), .int .i64 (.lit 0), .int .i64 (.lit 0), .int .i8 (.lit 0), .int .u64 (.lit 0), .int .u64 (.lit 0), .int .i64 (.lit 0), .int .i64 (.lit 0), .int .u64 (.lit 0), .int .u64 (.lit 0), .int .i64 (.lit 0), .int .i64 (.lit 0), .int .i8 (.lit 0), .int .u64 (.lit 0), .int .u64 (.lit 0), .int .i64 (.lit 0), .int .i64 (.lit 0), .int .u64 (.lit 0), .int .u64 (.lit 0), .int .i64 (.lit 0), .int .i64 (.lit 0), .int .i8 (.lit 0), .int .u64 (.lit 0), .int .u64 (.lit 0), .int .i64 (.lit 0), .int .i64 (.lit 0), .int .u64 (.lit 0), .int .u64 (.lit 0), .int .i64 (.lit 0), .int .i64 (.lit 0), .int .i8 (.lit 0), .int .u64 (.lit 0), .int .u64 (.lit 0), .int .i64 (.lit 0), .int .i64 (.lit 0), .int .u64 (.lit 0), .int .u64 (.lit 0), .int .i64 (.lit 0), .int .i64 (.lit 0), .int .i8 (.lit 0), .int .u64 (.lit 0), .int .u64 (.lit 0), .int .i64 (.lit 0), .int .i64 (.lit 0), .int .u64 (.lit 0), .int .u64 (.lit 0), .int .i64 (.lit 0), .int .i64 (.lit 0)], [], some (8, 31), none, false, false, none, 576, false, none, false⟩),
 (35, ⟨true, 171, [.int .i8 (.lit 0), .int .u64 (.lit 0), .int .u64 (.lit 0), .int .i64 (.lit 0), .int .i64 (.lit 0), .int .u64 (.lit 0), .int .u64 (.lit 0), .int .i64 (.lit 0), .int .i64 (.lit 0), .int .i8 (.lit 0), .int .u64 (.lit 0), .int .u64 (.lit 0), .int .i64 (.lit 0), .int .i64 (.lit 0), .int .u64 (.lit 0), .int .u64 (.lit 0), .int .i64 (.lit 0), .int .i64 (.lit 0), .int .i8 (.lit 0), .int .u64 (.lit 0), .int .u64 (.lit 0), .int .i64 (.lit 0), .int .i64 (.lit 0), .int .u64 (.lit 0), .int .u64 (.lit 0), .int .i64 (.lit 0), .int .i64 (.lit 0), .int .i8 (.lit 0), .int .u64 (.lit 0), .int .u64 (.lit 0), .int .i64 (.lit 0), .int .i64 (.lit 0), .int .u64 (.lit 0), .int .u64 (.lit 0), .int .i64 (.lit 0), .int .i64 (.lit 0), .int .i8 (.lit 0), .int .u64 (.lit 0), .int .u64 (.lit 0), .int .i64 (.lit 0), .int .i64 (.lit 0), .int .u64 (.lit 0), .int .u64 (.lit 0), .int .i64 (.lit 0), .int .i64 (.lit 0), .int .i8 (.lit 0), .int .u64 (.lit 0), .int .u64 (.lit 0), .int .i64 (.lit 0), .int .i64 (.lit 0), .int .u64 (.lit 0), .int .u64 (.lit 0), .int .i64 (.lit 0), .int .i64 (.lit 0), .int .i8 (.lit 0), .int .u64 (.lit 0), .int .u64 (.lit 0), .int .i64 (.lit 0), .int .i64 (.lit 0), .int .u64 (.lit 0), .int .u64 (.lit 0), .int .i64 (.lit 0), .int .i64 (.lit 0), .int .i8 (.lit 0), .int .u64 (.lit 0), .int .u64 (.lit 0), .int .i64 (.lit 0), .int .i64 (.lit 0), .int .u64 (.lit 0), .int .u64 (.lit 0), .int .i64 (.lit 0), .int .i64 (.lit 0), .int .i8 (.lit 0), .int .u64 (.lit 0), .int .u64 (.lit 0), .int .i64 (.lit 0), .int .i64 (.lit 0), .int .u64 (.lit 0), .int .u64 (.lit 0), .int .i64 (.lit 0), .int .i64 (.lit 0), .int .i8 (.lit 0), .int .u64 (.lit 0), .int .u64 (.lit 0), .int .i64 (.lit 0), .int .i64 (.lit 0), .int .u64 (.lit 0), .int .u64 (.lit 0), .int .i64 (.lit 0), .int .i64 (.lit 0), .int .i8 (.lit 0), .int .u64 (.lit 0), .int .u64 (.lit 0), .int .i64 (.lit 0), .int .i64 (.lit 0), .int .u64 (.lit 0), .int .u64 (.lit 0), .int .i64 (.lit 0), .int .i64 (.lit 0), .int .i8 (.lit 0), .int .u64 (.lit 0), .int .u64 (.lit 0), .int .i64 (.lit 0), .int .i64 (.lit 0), .int .u64 (.lit 0), .int .u64 (.lit 0), .int .i64 (.lit 0), .int .i64 (.lit 0), .int .i8 (.lit 0), .int .u64 (.lit 0), .int .u64 (.lit 0), .int .i64 (.lit 0), .int .i64 (.lit 0), .int .u64 (.lit 0), .int .u64 (.lit 0), .int .i64 (.lit 0), .int .i64 (.lit 0), .int .i8 (.lit 0), .int .u64 (.lit 0), .int .u64 (.lit 0), .int .i64 (.lit 0), .int .i64 (.lit 0), .int .u64 (.lit 0), .int .u64 (.lit 0), .int .i64 (.lit 0), .int .i64 (.lit 0), .int .i8 (.lit 0), .int .u64 (.lit 0), .int .u64 (.lit 0), .int .i64 (.lit 0), .int .i64 (.lit 0), .int .u64 (.lit 0), .int .u64 (.lit 0), .int .i64 (.lit 0), .int .i64 (.lit 0), .int .i8 (.lit 0), .int .u64 (.lit 0), .int .u64 (.lit 0), .int .i64 (.lit 0), .int .i64 (.lit 0), .int .u64 (.lit 0), .int .u64 (.lit 0), .int .i64 (.lit 0), .int .i64 (.lit 0), .int .i8 (.lit 0), .int .u64 (.lit 0), .int .u64 (.lit 0), .int .i64 (.lit 0), .int .i64 (.lit 0), .int .u64 (.lit 0), .int .u64 (.lit 0), .int .i64 (.lit 0), .int .i64 (.lit 0), .int .i8 (.lit 0), .int .u64 (.lit 0), .int .u64 (.lit 0), .int .i64 (.lit 0), .int .i64 (.lit 0), .int .u64 (.lit 0), .int .u64 (.lit 0), .int .i64 (.lit 0), .int .i64 (.lit 0), .int .i8 (.lit 0), .int .u64 (.lit 0), .int .u64 (.lit 0), .int .i64 (.lit 0), .int .i64 (.lit 0), .int .u64 (.lit 0), .int .u64 (.lit 0), .int .i64 (.lit 0), .int .i64 (.lit 0)], [(0, 32), (99, 33)], none, none, false, false, none, 1368, false, none, false⟩),
 (66, ⟨true, 4, [.int .u64 (.lit 0), .int .u64 (.lit 0), .int .u64 (.lit 0), .int .u64 (.lit 0)], [], some (4, 23), none, false, false, none, 32, false, none, false⟩)]
set_option maxRecDepth 100000 in
theorem tysck_SdB : (tys_SdB.all fun p => ckTI Try.prog p.1 p.2) = true := by kernel_rfl
theorem tyseq_SdB : (tys_SdB.all fun p => !p.2.eqok || ((Nat.beq p.1 29 && kindsC p.2.zero z_Sc) || (Nat.beq p.1 31 && kindsC p.2.zero z_Ty))) = true := by kernel_rfl
theorem tyskn_SdB : (tys_SdB.all fun p => !p.2.keyok) = true := by kernel_rfl
theorem tysok_SdB : ∀ t i, (t, i) ∈ tys_SdB → TIok Try.prog t i := by
  intro t i h
  refine TIok_of (all_at (f := ckTI Try.prog) tysck_SdB h) (fun he => ?_) (fun he => ?_) (fun he => ?_)
  · have h1 := List.all_eq_true.1 tyseq_SdB (t, i) h
    simp only [he, Bool.not_true, Bool.false_or, Bool.or_eq_true, Bool.and_eq_true] at h1
    rcases h1 with h1 | h1
    · have hs := h1.2
      obtain rfl := Nat.eq_of_beq_eq_true h1.1
      exact fun vs us hv hu => eq_Sc vs us (kindsV_of hs hv) (kindsV_of hs hu)
    · have hs := h1.2
      obtain rfl := Nat.eq_of_beq_eq_true h1.1
      exact fun vs us hv hu => eq_Ty vs us (kindsV_of hs hv) (kindsV_of hs hu)
  · have h1 := List.all_eq_true.1 tyseq_SdB (t, i) h
    simp only [he, Bool.not_true, Bool.false_or, Bool.or_eq_true, Bool.and_eq_true] at h1
    rcases h1 with h1 | h1
    · have hs := h1.2
      obtain rfl := Nat.eq_of_beq_eq_true h1.1
      exact grd_Sc
    · have hs := h1.2
      obtain rfl := Nat.eq_of_beq_eq_true h1.1
      exact grd_Ty
  · have h1 := List.all_eq_true.1 tyskn_SdB (t, i) h
    simp [he] at h1
def sM_tscal (key : Nat) : Sm := ⟨15, key, [], [.agg kTy], false⟩
def sF_tscal : List Dt → List Dt
  | [] => d_Ty (tscal) ([])
  | _ => []
def sT_tscal : Tr :=
(.call 0 (kSc) .nil 0
(.leaf (.cons (.lit 1) (.vs 0 6 (.cons (.lit 0) (.cons (.lit 0) .nil))))))
def sP_tscal : Spec := ⟨fun k => match k with | 0 => sF_vall | _ => fun _ => [], fun k => match k with | _ => fun _ => True⟩
set_option maxRecDepth 100000 in
theorem sR_tscal : treeIs tys_SdB [sM_vall 0] [] [] [] 200 Try.f15 [] [.agg kTy] false [] sT_tscal := ⟨by kernel_rfl, by kernel_rfl, by kernel_rfl⟩
set_option maxRecDepth 100000 in
set_option maxHeartbeats 8000000 in
theorem sX_tscal  (ρ : Env) (g : varsD ρ 0 [] = []) : sT_tscal.asks sP_tscal (fun ρ e => e.D ρ = sF_tscal []) ρ fun _ _ => False := by
  simp only [sT_tscal, sP_tscal, d_Ty, kSc, sF_vall, sF_tscal, Tr.asks, upd_same, okDs, okD, eqs, E.I, E.B, E.L, E.R, E.D, E.vs, dI, dB, dL, varD, varsD, List.getElem?_cons_zero, List.getElem?_cons_succ, List.cons_append, List.nil_append, Nat.zero_add, Nat.add_zero, Nat.reduceAdd, and_true, true_and, b2i_one, -eq_self, etasX]
  intro e; (try simp only [e, etasX, -eq_self]); clear e
  · rfl
theorem sK_tscal {sp : Spec} {key : Nat} (hF : sp.F key = sF_tscal) (hP : sp.pre key = fun _ => True := by rfl) : SmOk Try.prog sp (sM_tscal key) :=
  fun_ok (s := sM_tscal key) hF hP (by kernel_rfl) tysok_SdB (smc (sK_vall rfl) sm0) Try.func15 fn0 sR_tscal (.inl rfl) (fun  hp ρ g => sX_tscal ρ g)
def sM_ttok (key : Nat) : Sm := ⟨13, key, [.agg kTy], [.one .bool], false⟩
def sV_ttok (t : Ty) : List Dt := [.z (b2i (tok t))]
def sF_ttok : List Dt → List Dt
  | [.z x0, .z x1, .z x2, .z x3, .z x4, .z x5, .z x6, .z x7, .z x8] => sV_ttok ⟨x0, x1, x2, x3, x4, x5, x6, x7, x8⟩
  | _ => []
def sT_ttok : Tr :=
(.br (.eq (.var 0) (.lit 0))
(.leaf (.consb (.and (.eq (.var 0) (.lit 0)) (.and (.eq (.var 1) (.lit 0)) (.and (.eq (.var 2) (.lit 0)) (.and (.eq (.var 3) (.lit 0)) (.and (.eq (.var 4) (.lit 0)) (.and (.eq (.var 5) (.lit 0)) (.and (.eq (.var 6) (.lit 0)) (.and (.eq (.var 7) (.lit 0)) (.and (.eq (.var 8) (.lit 0)) (.tt true)))))))))) .nil))
(.br (.eq (.var 0) (.lit 1))
(.br (.eq (.var 7) (.lit 0))
(.br (.eq (.var 8) (.lit 0))
(.call 0 ([.bool]) (.vs 1 6 .nil) 9
(.leaf (.consb (.bvar 9) .nil)))
(.leaf (.consb (.tt false) .nil)))
(.leaf (.consb (.tt false) .nil)))
(.br (.eq (.var 0) (.lit 2))
(.br (.eq (.var 1) (.lit 0))
(.br (.eq (.var 2) (.lit 0))
(.br (.eq (.var 3) (.lit 0))
(.br (.eq (.var 4) (.lit 0))
(.br (.eq (.var 5) (.lit 0))
(.br (.eq (.var 6) (.lit 0))
(.br (.lt (.var 8) (.var 7))
(.leaf (.consb (.tt false) .nil))
(.br (.lt (.var 7) (.lit (-1048576)))
(.leaf (.consb (.tt false) .nil))
(.leaf (.consb (.not (.lt (.lit 1048576) (.var 8))) .nil))))
(.leaf (.consb (.tt false) .nil)))
(.leaf (.consb (.tt false) .nil)))
(.leaf (.consb (.tt false) .nil)))
(.leaf (.consb (.tt false) .nil)))
(.leaf (.consb (.tt false) .nil)))
(.leaf (.consb (.tt false) .nil)))
(.br (.eq (.var 0) (.lit 3))
(.br (.eq (.var 1) (.lit 0))
(.br (.eq (.var 2) (.lit 0))
(.br (.eq (.var 3) (.lit 0))
(.br (.eq (.var 4) (.lit 0))
(.br (.eq (.var 5) (.lit 0))
(.br (.eq (.var 6) (.lit 0))
(.br (.lt (.var 8) (.var 7))
(.leaf (.consb (.tt false) .nil))
(.br (.lt (.var 7) (.lit (-1048576)))
(.leaf (.consb (.tt false) .nil))
(.leaf (.consb (.not (.lt (.lit 1048576) (.var 8))) .nil))))
(.leaf (.consb (.tt false) .nil)))
(.leaf (.consb (.tt false) .nil)))
(.leaf (.consb (.tt false) .nil)))
(.leaf (.consb (.tt false) .nil)))
(.leaf (.consb (.tt false) .nil)))
(.leaf (.consb (.tt false) .nil)))
(.leaf (.consb (.tt false) .nil))))))
def sP_ttok : Spec := ⟨fun k => match k with | 0 => sF_vmay | _ => fun _ => [], fun k => match k with | _ => fun _ => True⟩
set_option maxRecDepth 100000 in
theorem sR_ttok : treeIs tys_SdB [sM_vmay 0] [] [] [] 200 Try.f13 [.agg kTy] [.one .bool] false (v_Ty ([])) sT_ttok := ⟨by kernel_rfl, by kernel_rfl, by kernel_rfl⟩
set_option maxRecDepth 100000 in
set_option maxHeartbeats 8000000 in
theorem sX_ttok (t : Ty) (ht : Ty.ok t) (ρ : Env) (g : varsD ρ 0 (v_Ty ([])) = (d_Ty t ([]))) : sT_ttok.asks sP_ttok (fun ρ e => e.D ρ = sF_ttok (d_Ty t ([]))) ρ fun _ _ => False := by
  simp only [d_Ty, v_Ty, varsD, varD, List.cons.injEq, Dt.z.injEq, Dt.l.injEq, b2i_eq_iff, Nat.reduceAdd, and_true] at g
  simp only [sT_ttok, sP_ttok, d_Ty, sF_vmay, sV_vmay, sF_ttok, sV_ttok, Tr.asks, upd_same, okDs, okD, eqs, E.I, E.B, E.L, E.R, E.D, E.vs, dI, dB, dL, varD, varsD, List.getElem?_cons_zero, List.getElem?_cons_succ, List.cons_append, List.nil_append, Nat.zero_add, Nat.add_zero, Nat.reduceAdd, and_true, true_and, b2i_one, -eq_self, etasX, g]
  refine ⟨fun c0 => ?_, fun c0 => ?_⟩
  · (unfold tok; simp_all [tbare, Bool.and_assoc] <;> first | (intros; omega) | (rw [Bool.eq_iff_iff]; simp; done))
  refine ⟨fun c1 => ?_, fun c1 => ?_⟩
  refine ⟨fun c2 => ?_, fun c2 => ?_⟩
  refine ⟨fun c3 => ?_, fun c3 => ?_⟩
  intro e; (try simp only [e, etasX, -eq_self]); clear e
  · (unfold tok; simp_all [tbare, Bool.and_assoc] <;> first | (intros; omega) | (rw [Bool.eq_iff_iff]; simp; done))
  · (unfold tok; simp_all [tbare, Bool.and_assoc] <;> first | (intros; omega) | (rw [Bool.eq_iff_iff]; simp; done))
  · (unfold tok; simp_all [tbare, Bool.and_assoc] <;> first | (intros; omega) | (rw [Bool.eq_iff_iff]; simp; done))
  refine ⟨fun c4 => ?_, fun c4 => ?_⟩
  refine ⟨fun c5 => ?_, fun c5 => ?_⟩
  refine ⟨fun c6 => ?_, fun c6 => ?_⟩
  refine ⟨fun c7 => ?_, fun c7 => ?_⟩
  refine ⟨fun c8 => ?_, fun c8 => ?_⟩
  refine ⟨fun c9 => ?_, fun c9 => ?_⟩
  refine ⟨fun c10 => ?_, fun c10 => ?_⟩
  refine ⟨fun c11 => ?_, fun c11 => ?_⟩
  · (unfold tok; simp_all [tbare, Bool.and_assoc] <;> first | (intros; omega) | (rw [Bool.eq_iff_iff]; simp; done))
  refine ⟨fun c12 => ?_, fun c12 => ?_⟩
  · (unfold tok; simp_all [tbare, Bool.and_assoc] <;> first | (intros; omega) | (rw [Bool.eq_iff_iff]; simp; done))
  · (unfold tok; simp_all [tbare, Bool.and_assoc] <;> first | (intros; omega) | (rw [Bool.eq_iff_iff]; simp; done))
  · (unfold tok; simp_all [tbare, Bool.and_assoc] <;> first | (intros; omega) | (rw [Bool.eq_iff_iff]; simp; done))
  · (unfold tok; simp_all [tbare, Bool.and_assoc] <;> first | (intros; omega) | (rw [Bool.eq_iff_iff]; simp; done))
  · (unfold tok; simp_all [tbare, Bool.and_assoc] <;> first | (intros; omega) | (rw [Bool.eq_iff_iff]; simp; done))
  · (unfold tok; simp_all [tbare, Bool.and_assoc] <;> first | (intros; omega) | (rw [Bool.eq_iff_iff]; simp; done))
  · (unfold tok; simp_all [tbare, Bool.and_assoc] <;> first | (intros; omega) | (rw [Bool.eq_iff_iff]; simp; done))
  · (unfold tok; simp_all [tbare, Bool.and_assoc] <;> first | (intros; omega) | (rw [Bool.eq_iff_iff]; simp; done))
  refine ⟨fun c13 => ?_, fun c13 => ?_⟩
  refine ⟨fun c14 => ?_, fun c14 => ?_⟩
  refine ⟨fun c15 => ?_, fun c15 => ?_⟩
  refine ⟨fun c16 => ?_, fun c16 => ?_⟩
  refine ⟨fun c17 => ?_, fun c17 => ?_⟩
  refine ⟨fun c18 => ?_, fun c18 => ?_⟩
  refine ⟨fun c19 => ?_, fun c19 => ?_⟩
  refine ⟨fun c20 => ?_, fun c20 => ?_⟩
  · (unfold tok; simp_all [tbare, Bool.and_assoc] <;> first | (intros; omega) | (rw [Bool.eq_iff_iff]; simp; done))
  refine ⟨fun c21 => ?_, fun c21 => ?_⟩
  · (unfold tok; simp_all [tbare, Bool.and_assoc] <;> first | (intros; omega) | (rw [Bool.eq_iff_iff]; simp; done))
  · (unfold tok; simp_all [tbare, Bool.and_assoc] <;> first | (intros; omega) | (rw [Bool.eq_iff_iff]; simp; done))
  · (unfold tok; simp_all [tbare, Bool.and_assoc] <;> first | (intros; omega) | (rw [Bool.eq_iff_iff]; simp; done))
  · (unfold tok; simp_all [tbare, Bool.and_assoc] <;> first | (intros; omega) | (rw [Bool.eq_iff_iff]; simp; done))
  · (unfold tok; simp_all [tbare, Bool.and_assoc] <;> first | (intros; omega) | (rw [Bool.eq_iff_iff]; simp; done))
  · (unfold tok; simp_all [tbare, Bool.and_assoc] <;> first | (intros; omega) | (rw [Bool.eq_iff_iff]; simp; done))
  · (unfold tok; simp_all [tbare, Bool.and_assoc] <;> first | (intros; omega) | (rw [Bool.eq_iff_iff]; simp; done))
  · (unfold tok; simp_all [tbare, Bool.and_assoc] <;> first | (intros; omega) | (rw [Bool.eq_iff_iff]; simp; done))
  · (unfold tok; simp_all [tbare, Bool.and_assoc] <;> first | (intros; omega) | (rw [Bool.eq_iff_iff]; simp; done))
theorem sK_ttok {sp : Spec} {key : Nat} (hF : sp.F key = sF_ttok) (hP : sp.pre key = fun _ => True := by rfl) : SmOk Try.prog sp (sM_ttok key) :=
  fun_ok (s := sM_ttok key) hF hP (by kernel_rfl) tysok_SdB (smc (sK_vmay rfl) sm0) Try.func13 fn0 sR_ttok (.inl rfl) (for_Ty fun q0 gq0 => fun  hp ρ g => sX_ttok q0 gq0 ρ g)
def sM_tmay (key : Nat) : Sm := ⟨4, key, [.agg kSta], [.one .bool], false⟩
def sV_tmay (s : Sta) : List Dt := [.z (b2i (smay s))]
def sF_tmay : List Dt → List Dt := rd_Sta fun s => fun _ => sV_tmay s
def sT_tmay : Tr :=
(.call 0 ([.bool]) (.vs 0 9 .nil) 171
(.br (.bvar 171)
(.call 0 ([.bool]) (.vs 9 9 .nil) 172
(.br (.bvar 172)
(.call 0 ([.bool]) (.vs 18 9 .nil) 173
(.br (.bvar 173)
(.call 0 ([.bool]) (.vs 27 9 .nil) 174
(.br (.bvar 174)
(.call 0 ([.bool]) (.vs 36 9 .nil) 175
(.br (.bvar 175)
(.call 0 ([.bool]) (.vs 45 9 .nil) 176
(.br (.bvar 176)
(.call 0 ([.bool]) (.vs 54 9 .nil) 177
(.br (.bvar 177)
(.call 0 ([.bool]) (.vs 63 9 .nil) 178
(.br (.bvar 178)
(.call 0 ([.bool]) (.vs 72 9 .nil) 179
(.br (.bvar 179)
(.call 0 ([.bool]) (.vs 81 9 .nil) 180
(.br (.bvar 180)
(.call 0 ([.bool]) (.vs 90 9 .nil) 181
(.br (.bvar 181)
(.br (.eq (.var 99) (.lit 0))
(.leaf (.consb (.tt false) .nil))
(.call 0 ([.bool]) (.vs 99 9 .nil) 182
(.br (.bvar 182)
(.br (.eq (.var 108) (.lit 0))
(.leaf (.consb (.tt false) .nil))
(.call 0 ([.bool]) (.vs 108 9 .nil) 183
(.br (.bvar 183)
(.br (.eq (.var 117) (.lit 0))
(.leaf (.consb (.tt false) .nil))
(.call 0 ([.bool]) (.vs 117 9 .nil) 184
(.br (.bvar 184)
(.br (.eq (.var 126) (.lit 0))
(.leaf (.consb (.tt false) .nil))
(.call 0 ([.bool]) (.vs 126 9 .nil) 185
(.br (.bvar 185)
(.br (.eq (.var 135) (.lit 0))
(.leaf (.consb (.tt false) .nil))
(.call 0 ([.bool]) (.vs 135 9 .nil) 186
(.br (.bvar 186)
(.br (.eq (.var 144) (.lit 0))
(.leaf (.consb (.tt false) .nil))
(.call 0 ([.bool]) (.vs 144 9 .nil) 187
(.br (.bvar 187)
(.br (.eq (.var 153) (.lit 0))
(.leaf (.consb (.tt false) .nil))
(.call 0 ([.bool]) (.vs 153 9 .nil) 188
(.br (.bvar 188)
(.br (.eq (.var 162) (.lit 0))
(.leaf (.consb (.tt false) .nil))
(.call 0 ([.bool]) (.vs 162 9 .nil) 189
(.br (.bvar 189)
(.leaf (.consb (.tt true) .nil))
(.leaf (.consb (.tt false) .nil)))))
(.leaf (.consb (.tt false) .nil)))))
(.leaf (.consb (.tt false) .nil)))))
(.leaf (.consb (.tt false) .nil)))))
(.leaf (.consb (.tt false) .nil)))))
(.leaf (.consb (.tt false) .nil)))))
(.leaf (.consb (.tt false) .nil)))))
(.leaf (.consb (.tt false) .nil)))))
(.leaf (.consb (.tt false) .nil))))
(.leaf (.consb (.tt false) .nil))))
(.leaf (.consb (.tt false) .nil))))
(.leaf (.consb (.tt false) .nil))))
(.leaf (.consb (.tt false) .nil))))
(.leaf (.consb (.tt false) .nil))))
(.leaf (.consb (.tt false) .nil))))
(.leaf (.consb (.tt false) .nil))))
(.leaf (.consb (.tt false) .nil))))
(.leaf (.consb (.tt false) .nil))))
(.leaf (.consb (.tt false) .nil))))
def sP_tmay : Spec := ⟨fun k => match k with | 0 => sF_ttok | _ => fun _ => [], fun k => match k with | _ => fun _ => True⟩
set_option maxRecDepth 100000 in
theorem sR_tmay : treeIs tys_SdB [sM_ttok 0] [] [] [] 200 Try.f4 [.agg kSta] [.one .bool] false (v_Sta ([])) sT_tmay := ⟨by kernel_rfl, by kernel_rfl, by kernel_rfl⟩
set_option maxRecDepth 100000 in
set_option maxHeartbeats 8000000 in
theorem sX_tmay (s : Sta) (hs : Sta.ok s) (ρ : Env) (g : varsD ρ 0 (v_Sta ([])) = (d_Sta s ([]))) : sT_tmay.asks sP_tmay (fun ρ e => e.D ρ = sF_tmay (d_Sta s ([]))) ρ fun _ _ => False := by
  simp only [sF_tmay, rd_Sta_d, rd_Ty_d, rdZ, rdB]
  simp only [d_Sta, d_Ty, v_Sta, v_Ty, varsD, varD, List.cons.injEq, Dt.z.injEq, Dt.l.injEq, b2i_eq_iff, Nat.reduceAdd, and_true] at g
  simp (maxSteps := 10000000) only [sT_tmay, sP_tmay, d_Sta, d_Ty, rd_Sta, rd_Ty, sF_ttok, sV_ttok, sF_tmay, sV_tmay, Tr.asks, upd_same, okDs, okD, eqs, E.I, E.B, E.L, E.R, E.D, E.vs, dI, dB, dL, varD, varsD, List.getElem?_cons_zero, List.getElem?_cons_succ, List.cons_append, List.nil_append, Nat.zero_add, Nat.add_zero, Nat.reduceAdd, and_true, true_and, b2i_one, -eq_self, etasX, g]
  intro e; (try simp only [e, etasX, -eq_self]); clear e
  refine ⟨fun c0 => ?_, fun c0 => ?_⟩
  intro e; (try simp only [e, etasX, -eq_self]); clear e
  refine ⟨fun c1 => ?_, fun c1 => ?_⟩
  intro e; (try simp only [e, etasX, -eq_self]); clear e
  refine ⟨fun c2 => ?_, fun c2 => ?_⟩
  intro e; (try simp only [e, etasX, -eq_self]); clear e
  refine ⟨fun c3 => ?_, fun c3 => ?_⟩
  intro e; (try simp only [e, etasX, -eq_self]); clear e
  refine ⟨fun c4 => ?_, fun c4 => ?_⟩
  intro e; (try simp only [e, etasX, -eq_self]); clear e
  refine ⟨fun c5 => ?_, fun c5 => ?_⟩
  intro e; (try simp only [e, etasX, -eq_self]); clear e
  refine ⟨fun c6 => ?_, fun c6 => ?_⟩
  intro e; (try simp only [e, etasX, -eq_self]); clear e
  refine ⟨fun c7 => ?_, fun c7 => ?_⟩
  intro e; (try simp only [e, etasX, -eq_self]); clear e
  refine ⟨fun c8 => ?_, fun c8 => ?_⟩
  intro e; (try simp only [e, etasX, -eq_self]); clear e
  refine ⟨fun c9 => ?_, fun c9 => ?_⟩
  intro e; (try simp only [e, etasX, -eq_self]); clear e
  refine ⟨fun c10 => ?_, fun c10 => ?_⟩
  refine ⟨fun c11 => ?_, fun c11 => ?_⟩
  · (unfold smay tset; simp_all)
  intro e; (try simp only [e, etasX, -eq_self]); clear e
  refine ⟨fun c12 => ?_, fun c12 => ?_⟩
  refine ⟨fun c13 => ?_, fun c13 => ?_⟩
  · (unfold smay tset; simp_all)
  intro e; (try simp only [e, etasX, -eq_self]); clear e
  refine ⟨fun c14 => ?_, fun c14 => ?_⟩
  refine ⟨fun c15 => ?_, fun c15 => ?_⟩
  · (unfold smay tset; simp_all)
  intro e; (try simp only [e, etasX, -eq_self]); clear e
  refine ⟨fun c16 => ?_, fun c16 => ?_⟩
  refine ⟨fun c17 => ?_, fun c17 => ?_⟩
  · (unfold smay tset; simp_all)
  intro e; (try simp only [e, etasX, -eq_self]); clear e
  refine ⟨fun c18 => ?_, fun c18 => ?_⟩
  refine ⟨fun c19 => ?_, fun c19 => ?_⟩
  · (unfold smay tset; simp_all)
  intro e; (try simp only [e, etasX, -eq_self]); clear e
  refine ⟨fun c20 => ?_, fun c20 => ?_⟩
  refine ⟨fun c21 => ?_, fun c21 => ?_⟩
  · (unfold smay tset; simp_all)
  intro e; (try simp only [e, etasX, -eq_self]); clear e
  refine ⟨fun c22 => ?_, fun c22 => ?_⟩
  refine ⟨fun c23 => ?_, fun c23 => ?_⟩
  · (unfold smay tset; simp_all)
  intro e; (try simp only [e, etasX, -eq_self]); clear e
  refine ⟨fun c24 => ?_, fun c24 => ?_⟩
  refine ⟨fun c25 => ?_, fun c25 => ?_⟩
  · (unfold smay tset; simp_all)
  intro e; (try simp only [e, etasX, -eq_self]); clear e
  refine ⟨fun c26 => ?_, fun c26 => ?_⟩
  · (unfold smay tset; simp_all)
  · (unfold smay tset; simp_all)
  · (unfold smay tset; simp_all)
  · (unfold smay tset; simp_all)
  · (unfold smay tset; simp_all)
  · (unfold smay tset; simp_all)
  · (unfold smay tset; simp_all)
  · (unfold smay tset; simp_all)
  · (unfold smay tset; simp_all)
  · (unfold smay tset; simp_all)
  · (unfold smay tset; simp_all)
  · (unfold smay tset; simp_all)
  · (unfold smay tset; simp_all)
  · (unfold smay tset; simp_all)
  · (unfold smay tset; simp_all)
  · (unfold smay tset; simp_all)
  · (unfold smay tset; simp_all)
  · (unfold smay tset; simp_all)
  · (unfold smay tset; simp_all)
  · (unfold smay tset; simp_all)
theorem sK_tmay {sp : Spec} {key : Nat} (hF : sp.F key = sF_tmay) (hP : sp.pre key = fun _ => True := by rfl) : SmOk Try.prog sp (sM_tmay key) :=
  fun_ok (s := sM_tmay key) hF hP (by kernel_rfl) tysok_SdB (smc (sK_ttok rfl) sm0) Try.func4 fn0 sR_tmay (.inl rfl) (for_Sta fun q0 gq0 => fun  hp ρ g => sX_tmay q0 gq0 ρ g)
def sM_thold (key : Nat) : Sm := ⟨12, key, [.agg kTy, .one (.int .u64)], [.one .bool], false⟩
def sV_thold (t : Ty) (v : Int) : List Dt := [.z (b2i (thold t v))]
def sF_thold : List Dt → List Dt
  | [.z x0, .z x1, .z x2, .z x3, .z x4, .z x5, .z x6, .z x7, .z x8, .z x9] => sV_thold ⟨x0, x1, x2, x3, x4, x5, x6, x7, x8⟩ x9
  | _ => []
def sT_thold : Tr :=
(.call 0 ([.bool]) (.vs 0 9 .nil) 10
(.br (.bvar 10)
(.br (.eq (.var 0) (.lit 0))
(.leaf (.consb (.tt true) .nil))
(.br (.eq (.var 0) (.lit 1))
(.call 1 ([.bool]) (.vs 1 6 (.cons (.var 9) .nil)) 11
(.leaf (.consb (.bvar 11) .nil)))
(.br (.eq (.var 0) (.lit 2))
(.br (.lt (.conv .i64 (.bin .sub .u64 (.var 9) (.lit 2097152))) (.var 7))
(.leaf (.consb (.tt false) .nil))
(.leaf (.consb (.not (.lt (.var 8) (.conv .i64 (.bin .sub .u64 (.var 9) (.lit 2097152))))) .nil)))
(.br (.eq (.var 0) (.lit 3))
(.br (.lt (.conv .i64 (.bin .sub .u64 (.var 9) (.lit 3145728))) (.var 7))
(.leaf (.consb (.tt false) .nil))
(.leaf (.consb (.not (.lt (.var 8) (.conv .i64 (.bin .sub .u64 (.var 9) (.lit 3145728))))) .nil)))
.panic))))
(.leaf (.consb (.tt false) .nil))))
def sP_thold : Spec := ⟨fun k => match k with | 0 => sF_ttok | 1 => sF_vhas | _ => fun _ => [], fun k => match k with | _ => fun _ => True⟩
set_option maxRecDepth 100000 in
theorem sR_thold : treeIs tys_SdB [sM_ttok 0, sM_vhas 1] [] [] [] 200 Try.f12 [.agg kTy, .one (.int .u64)] [.one .bool] false (v_Ty ( .int .u64 :: ([]))) sT_thold := ⟨by kernel_rfl, by kernel_rfl, by kernel_rfl⟩
set_option maxRecDepth 100000 in
set_option maxHeartbeats 8000000 in
theorem sX_thold (t : Ty) (ht : Ty.ok t) (v : Int) (hv : inK .u64 v = true) (ρ : Env) (g : varsD ρ 0 (v_Ty ( .int .u64 :: ([]))) = (d_Ty t ( .z v :: ([])))) : sT_thold.asks sP_thold (fun ρ e => e.D ρ = sF_thold (d_Ty t ( .z v :: ([])))) ρ fun _ _ => False := by
  simp only [d_Ty, v_Ty, varsD, varD, List.cons.injEq, Dt.z.injEq, Dt.l.injEq, b2i_eq_iff, Nat.reduceAdd, and_true] at g
  simp only [sT_thold, sP_thold, d_Ty, sF_ttok, sF_vhas, sV_ttok, sV_vhas, sF_thold, sV_thold, Tr.asks, upd_same, okDs, okD, eqs, E.I, E.B, E.L, E.R, E.D, E.vs, dI, dB, dL, varD, varsD, List.getElem?_cons_zero, List.getElem?_cons_succ, List.cons_append, List.nil_append, Nat.zero_add, Nat.add_zero, Nat.reduceAdd, and_true, true_and, b2i_one, -eq_self, etasX, g]
  intro e; (try simp only [e, etasX, -eq_self]); clear e
  refine ⟨fun c0 => ?_, fun c0 => ?_⟩
  refine ⟨fun c1 => ?_, fun c1 => ?_⟩
  · rw [thold_0 c0 (eqz c1)]; try rfl
  refine ⟨fun c2 => ?_, fun c2 => ?_⟩
  intro e; (try simp only [e, etasX, -eq_self]); clear e
  · rw [thold_1 c0 (eqz c2)]; try rfl
  refine ⟨fun c3 => ?_, fun c3 => ?_⟩
  refine ⟨fun c4 => ?_, fun c4 => ?_⟩
  · simp only [opI] at c4 ⊢; rw [thold_2 c0 (eqz c3), lele_no c4]; try rfl
  · simp only [opI] at c4 ⊢; rw [thold_2 c0 (eqz c3), lele_yes c4]; try rfl
  refine ⟨fun c5 => ?_, fun c5 => ?_⟩
  refine ⟨fun c6 => ?_, fun c6 => ?_⟩
  · simp only [opI] at c6 ⊢; rw [thold_3 c0 (eqz c5), lele_no c6]; try rfl
  · simp only [opI] at c6 ⊢; rw [thold_3 c0 (eqz c5), lele_yes c6]; try rfl
  · exact absurd (tok_kinds c0) (by simp_all)
  · rw [thold_no c0]
theorem sK_thold {sp : Spec} {key : Nat} (hF : sp.F key = sF_thold) (hP : sp.pre key = fun _ => True := by rfl) : SmOk Try.prog sp (sM_thold key) :=
  fun_ok (s := sM_thold key) hF hP (by kernel_rfl) tysok_SdB (smc (sK_ttok rfl) (smc (sK_vhas rfl) sm0)) Try.func12 fn0 sR_thold (.inl rfl) (for_Ty fun q0 gq0 => fun x9 gx9 hp ρ g => sX_thold q0 gq0 x9 gx9 ρ g)
def sM_tfirst (key : Nat) : Sm := ⟨14, key, [], [.agg kSta], false⟩
def sF_tfirst : List Dt → List Dt
  | [] => d_Sta (sfirst) ([])
  | _ => []
def sT_tfirst : Tr :=
(.call 0 (kSc) (.cons (.lit 0) .nil) 0
(.leaf (.cons (.lit 0) (.cons (.lit 0) (.cons (.lit 0) (.cons (.lit 0) (.cons (.lit 0) (.cons (.lit 0) (.cons (.lit 0) (.cons (.lit 0) (.cons (.lit 0) (.cons (.lit 2) (.cons (.lit 0) (.cons (.lit 0) (.cons (.lit 0) (.cons (.lit 0) (.cons (.lit 0) (.cons (.lit 0) (.cons (.lit 0) (.cons (.lit 0) (.cons (.lit 0) (.cons (.lit 0) (.cons (.lit 0) (.cons (.lit 0) (.cons (.lit 0) (.cons (.lit 0) (.cons (.lit 0) (.cons (.lit 0) (.cons (.lit 0) (.cons (.lit 0) (.cons (.lit 0) (.cons (.lit 0) (.cons (.lit 0) (.cons (.lit 0) (.cons (.lit 0) (.cons (.lit 0) (.cons (.lit 0) (.cons (.lit 0) (.cons (.lit 0) (.cons (.lit 0) (.cons (.lit 0) (.cons (.lit 0) (.cons (.lit 0) (.cons (.lit 0) (.cons (.lit 0) (.cons (.lit 0) (.cons (.lit 0) (.cons (.lit 0) (.cons (.lit 0) (.cons (.lit 0) (.cons (.lit 0) (.cons (.lit 0) (.cons (.lit 0) (.cons (.lit 0) (.cons (.lit 0) (.cons (.lit 0) (.cons (.lit 0) (.cons (.lit 0) (.cons (.lit 0) (.cons (.lit 0) (.cons (.lit 0) (.cons (.lit 0) (.cons (.lit 0) (.cons (.lit 0) (.cons (.lit 0) (.cons (.lit 0) (.cons (.lit 0) (.cons (.lit 0) (.cons (.lit 0) (.cons (.lit 0) (.cons (.lit 0) (.cons (.lit 0) (.cons (.lit 0) (.cons (.lit 0) (.cons (.lit 0) (.cons (.lit 0) (.cons (.lit 0) (.cons (.lit 0) (.cons (.lit 0) (.cons (.lit 0) (.cons (.lit 0) (.cons (.lit 0) (.cons (.lit 0) (.cons (.lit 0) (.cons (.lit 0) (.cons (.lit 0) (.cons (.lit 0) (.cons (.lit 0) (.cons (.lit 0) (.cons (.lit 0) (.cons (.lit 0) (.cons (.lit 0) (.cons (.lit 3) (.cons (.lit 0) (.cons (.lit 0) (.cons (.lit 0) (.cons (.lit 0) (.cons (.lit 0) (.cons (.lit 0) (.cons (.lit 64) (.cons (.lit 64) (.cons (.lit 1) (.vs 0 6 (.cons (.lit 0) (.cons (.lit 0) (.cons (.lit 1) (.vs 0 6 (.cons (.lit 0) (.cons (.lit 0) (.cons (.lit 1) (.vs 0 6 (.cons (.lit 0) (.cons (.lit 0) (.cons (.lit 1) (.vs 0 6 (.cons (.lit 0) (.cons (.lit 0) (.cons (.lit 1) (.vs 0 6 (.cons (.lit 0) (.cons (.lit 0) (.cons (.lit 1) (.vs 0 6 (.cons (.lit 0) (.cons (.lit 0) (.cons (.lit 1) (.vs 0 6 (.cons (.lit 0) (.cons (.lit 0) (.cons (.lit 1) (.vs 0 6 (.cons (.lit 0) (.cons (.lit 0) .nil)))))))))))))))))))))))))))))))))))))))))))))))))))))))))))))))))))))))))))))))))))))))))))))))))))))))))))))))))))))))))))))))))))))
def sP_tfirst : Spec := ⟨fun k => match k with | 0 => sF_vone | _ => fun _ => [], fun k => match k with | _ => fun _ => True⟩
set_option maxRecDepth 100000 in
theorem sR_tfirst : treeIs tys_SdB [sM_vone 0] [] [] [] 200 Try.f14 [] [.agg kSta] false [] sT_tfirst := ⟨by kernel_rfl, by kernel_rfl, by kernel_rfl⟩
set_option maxRecDepth 100000 in
set_option maxHeartbeats 8000000 in
theorem sX_tfirst  (ρ : Env) (g : varsD ρ 0 [] = []) : sT_tfirst.asks sP_tfirst (fun ρ e => e.D ρ = sF_tfirst []) ρ fun _ _ => False := by
  simp only [sT_tfirst, sP_tfirst, d_Sta, d_Ty, kSc, sF_vone, sV_vone, sF_tfirst, Tr.asks, upd_same, okDs, okD, eqs, E.I, E.B, E.L, E.R, E.D, E.vs, dI, dB, dL, varD, varsD, List.getElem?_cons_zero, List.getElem?_cons_succ, List.cons_append, List.nil_append, Nat.zero_add, Nat.add_zero, Nat.reduceAdd, and_true, true_and, b2i_one, -eq_self, etasX]
  intro e; (try simp only [e, etasX, -eq_self]); clear e
  · rfl
theorem sK_tfirst {sp : Spec} {key : Nat} (hF : sp.F key = sF_tfirst) (hP : sp.pre key = fun _ => True := by rfl) : SmOk Try.prog sp (sM_tfirst key) :=
  fun_ok (s := sM_tfirst key) hF hP (by kernel_rfl) tysok_SdB (smc (sK_vone rfl) sm0) Try.func14 fn0 sR_tfirst (.inl rfl) (fun  hp ρ g => sX_tfirst ρ g)
end Go.Proofs.Ytgfghplnankgnaa

