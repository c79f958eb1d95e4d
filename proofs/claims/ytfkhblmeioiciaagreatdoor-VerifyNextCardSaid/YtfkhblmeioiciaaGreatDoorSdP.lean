import Derived.Test.YtfkhblmeioiciaaGreatDoorSdN
set_option linter.unusedSimpArgs false
set_option linter.unusedVariables false
set_option linter.unusedVariables false
set_option linter.unusedSimpArgs false
namespace Go.Proofs.YtfkhblmeioiciaaGreatDoor
open Go Go.RowKit
theorem alJ {t:Ty} (h:tok t=true) (hk:t.k=2∨t.k=3):cA t=true∧t.lo≤t.hi ∧ -1048576≤t.lo∧t.hi≤1048576:=by
 unfold tok at h; rw[if_neg (by omega),if_neg (by omega),if_pos hk] at h
 simp only[Bool.and_eq_true,decide_eq_true_eq] at h; exact h
theorem ot {s:Sc} {v:Int} (h:vhas s v=true):ay (ty 1 s 0 0) v=true:=by
 have hm:tok (ty 1 s 0 0)=true:=by
  unfold tok
  rw[if_neg (by show¬(1:Int)=0; omega),if_pos (show(ty 1 _ 0 0).k=1 from rfl),Bool.and_eq_true]
  exact⟨ku h,rfl⟩
 rw[ou hm rfl]; exact h
theorem kY {t:Ty} {v:Int} (h:ay t v=true):tok t=true:=by
 unfold ay at h; rw[Bool.and_eq_true] at h; exact h.1
structure Sta.wfs (a:Sta):Prop where
 r0:a.r0.s.wf
 r1:a.r1.s.wf
 r2:a.r2.s.wf
 r3:a.r3.s.wf
 r4:a.r4.s.wf
 r5:a.r5.s.wf
 r6:a.r6.s.wf
 r7:a.r7.s.wf
 r8:a.r8.s.wf
 r9:a.r9.s.wf
 r10:a.r10.s.wf
 s0:a.s0.s.wf
 s1:a.s1.s.wf
 s2:a.s2.s.wf
 s3:a.s3.s.wf
 s4:a.s4.s.wf
 s5:a.s5.s.wf
 s6:a.s6.s.wf
 s7:a.s7.s.wf
theorem xo {n:Nat} (h:n<18446744073709551616):(BitVec.ofInt 64 (n:Int)).toNat=n:=by rw[BitVec.toNat_ofInt]; omega
theorem adN {n k i:Nat} (h1:n<2 ^ k) (hi:k≤i) (h:n<18446744073709551616):tb (n:Int) i=false:=by
 show(BitVec.ofInt 64 (n:Int)).toNat.testBit i=false
 rw[xo h]
 exact Nat.testBit_lt_two_pow (Nat.lt_of_lt_of_le h1 (Nat.pow_le_pow_right (by decide) hi))
theorem agT {k i:Nat} (h:2 ^ k-1<18446744073709551616) (hi:i<k):tb ((2 ^ k-1:Nat):Int) i=true:=by
 show(BitVec.ofInt 64 _).toNat.testBit i=true
 rw[xo h,Nat.testBit_two_pow_sub_one,decide_eq_true hi]
theorem afc {n k:Nat} (h1:n<2 ^ k) (h:2 ^ k-1<18446744073709551616):khas ⟨0,((2 ^ k-1:Nat):Int)⟩ (n:Int)=true:=by
 rw[aK (show Kn.wf _ from⟨⟨Int.le_refl _,(by decide:(0:Int)≤18446744073709551615)⟩,⟨Int.natCast_nonneg _,by show((2 ^ k-1:Nat):Int)≤_; omega⟩⟩)]
 intro i hi
 show(tb 0 i&&tb ((2 ^ k-1:Nat):Int) i)=false∧(tb (n:Int) i &&!tb ((2 ^ k-1:Nat):Int) i)=tb 0 i
 rw[ed]
 refine⟨rfl,?_⟩
 rcases Nat.lt_or_ge i k with hlt | hge
 ·rw[agT h hlt]; simp
 ·rw[adN h1 hge (by omega)]; rfl
theorem kv {k n:Nat} (hk:k≤64) (h1:n<2 ^ k) (h:2 ^ k-1<18446744073709551616):vhas (vbel ((2 ^ k-1:Nat):Int)) (n:Int)=true:=by
 have hb:bhas (⟨0,((2 ^ k-1:Nat):Int),ball.sl,ball.sh⟩:Rg) (n:Int)=true:=by
  have q:=fH (n:Int) (by omega) (by omega)
  unfold bhas at q ⊢
  simp only[Bool.and_eq_true,decide_eq_true_eq] at q ⊢
  refine⟨?_,⟨by omega,by omega⟩,q.2.2⟩
  unfold bmay
  simp only[Bool.and_eq_true,decide_eq_true_eq]
  exact⟨by omega,by decide⟩
 refine(kt ?_ (by omega) (gp (a:=sc ⟨0,((2 ^ k-1:Nat):Int),ball.sl,ball.sh⟩ ⟨0,((2 ^ k-1:Nat):Int)⟩) hb (afc h1 h))).2
 refine qf ?_ (show Kn.wf _ from⟨⟨Int.le_refl _,(by decide:(0:Int)≤18446744073709551615)⟩,⟨Int.natCast_nonneg _,by show((2 ^ k-1:Nat):Int)≤_; omega⟩⟩)
 exact⟨⟨Int.le_refl _,(by decide:(0:Int)≤18446744073709551615)⟩,⟨Int.natCast_nonneg _,by show((2 ^ k-1:Nat):Int)≤_; omega⟩,(by decide : -9223372036854775808≤ball.sl∧ball.sl≤9223372036854775807),(by decide : -9223372036854775808≤ball.sh∧ball.sh≤9223372036854775807)⟩
theorem adI {size v:Int} (hs:size=1∨size=2∨size=4∨size=8) (h0:0≤v) (h1:v<256 ^ size.toNat):vhas (vbyt size) v=true:=by
 obtain⟨n,rfl⟩:=Int.eq_ofNat_of_zero_le h0
 rcases hs with rfl | rfl | rfl | rfl
 ·exact kv (k:=8) (by decide) (by have:(n:Int)<256:=h1; omega) (by decide)
 ·exact kv (k:=16) (by decide) (by have:(n:Int)<65536:=h1; omega) (by decide)
 ·exact kv (k:=32) (by decide) (by have:(n:Int)<4294967296:=h1; omega) (by decide)
 ·exact kv (k:=64) (by decide) (by have:(n:Int)<18446744073709551616:=h1; omega) (by decide)
end Go.Proofs.YtfkhblmeioiciaaGreatDoor
