import Derived.Test.YtfkhblmeioiciaaGreatDoorLiE
set_option linter.unusedSimpArgs false
set_option linter.unusedVariables false
set_option linter.unusedVariables false
set_option linter.unusedSimpArgs false
namespace Go.Proofs.YtfkhblmeioiciaaGreatDoor
open Go Go.RowKit
def aH (x:Ins):Ins:=
 if x.k=0 then⟨x.k,x.op,x.w,0,x.br &&!(x.op==8),x.d,if x.br=true∧x.op≠8 then x.s else 0,0,if x.br=true∨x.op=8 then 0 else x.imm⟩
 else if x.k=1∨x.k=2 then⟨x.k,0,0,x.sz,false,x.d,x.s,x.off,0⟩
 else if x.k=3 then⟨x.k,x.op,0,0,x.br,x.d,if x.br=true then x.s else 0,x.off,if x.br=true then 0 else x.imm⟩
 else if x.k=4 then⟨x.k,0,0,0,false,0,0,x.off,0⟩
 else if x.k=5 then⟨x.k,0,0,0,false,0,0,0,x.imm⟩
 else⟨x.k,0,0,0,false,0,0,0,0⟩
def be (x:Ins):Bool:=
 if x.k=0 then(!decide (x.op<0))&&((!decide (12<x.op))&&((x.w==32||x.w==64)&&decide (x.d<10)))
 else if x.k=1 then fQ x.sz&&decide (x.d<10)
 else if x.k=2 then fQ x.sz
 else if x.k=3 then(!decide (x.op<0)) &&!decide (10<x.op)
 else if x.k=5 then(!decide (x.imm<0))&&decide (x.imm<16)
 else true
def bc (x y:Ins):Bool:=(x.k==y.k)&&((x.op==y.op)&&((x.w==y.w)&&((x.sz==y.sz)&&((x.br==y.br)&&((x.d==y.d)&&((x.s==y.s)&&((x.off==y.off)&&(x.imm==y.imm))))))))
def jm (x:Ins):Bool:=(!decide (x.k<0))&&((!decide (6<x.k))&&(bc x (aH x)&&((!decide (x.d<0))&&((!decide (10<x.d))&&((!decide (x.s<0))&&((!decide (10<x.s))&&((!decide (x.off < -32768))&&(decide (x.off<32768)&&((!decide (x.imm < -2147483648))&&(decide (x.imm<2147483648)&&be x))))))))))
theorem aE (x:Ins):imay x=jm x:=by
 obtain⟨k,op,w,sz,br,d,s,off,imm⟩:=x
 by_cases h0:k=0
 ·subst h0
  by_cases h8:op=8
  ·subst h8
   cases br<;>(rw[Bool.eq_iff_iff]; simp[imay,jm,cK,di,aR,immz,bc,aH,be]; try omega)
  ·cases br<;>(rw[Bool.eq_iff_iff]; simp[imay,jm,cK,di,aR,immz,bc,aH,be,h8]; try omega)
 by_cases h1:k=1
 ·subst h1
  cases br<;>(rw[Bool.eq_iff_iff]; simp[imay,jm,cK,di,aR,immz,bc,aH,be]; try (cases fQ sz<;>simp<;>omega))
 by_cases h2:k=2
 ·subst h2
  cases br<;>(rw[Bool.eq_iff_iff]; simp[imay,jm,cK,di,aR,immz,bc,aH,be]; try (cases fQ sz<;>simp<;>omega))
 by_cases h3:k=3
 ·subst h3
  cases br<;>(rw[Bool.eq_iff_iff]; simp[imay,jm,cK,di,aR,immz,bc,aH,be]; try omega)
 by_cases h4:k=4
 ·subst h4
  cases br<;>(rw[Bool.eq_iff_iff]; simp[imay,jm,cK,di,aR,immz,bc,aH,be]; try omega)
 by_cases h5:k=5
 ·subst h5
  cases br<;>(rw[Bool.eq_iff_iff]; simp[imay,jm,cK,di,aR,immz,bc,aH,be]; try omega)
 by_cases h6:k=6
 ·subst h6
  cases br<;>(rw[Bool.eq_iff_iff]; simp[imay,jm,cK,di,aR,immz,bc,aH,be]; try omega)
 ·have:¬(0≤k∧k≤6):=by omega
  rw[Bool.eq_iff_iff]
  simp[imay,jm,aR,h0,h1,h2,h3,h4,h5,h6]
  omega
end Go.Proofs.YtfkhblmeioiciaaGreatDoor
