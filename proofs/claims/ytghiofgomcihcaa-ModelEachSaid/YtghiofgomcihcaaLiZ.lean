import Derived.Test.YtghiofgomcihcaaLiE
set_option linter.unusedSimpArgs false
set_option linter.unusedVariables false
set_option linter.unusedVariables false
set_option linter.unusedSimpArgs false
namespace Go.Proofs.Ytghiofgomcihcaa
open Go Go.RowKit
theorem yE (I:List BV) (l:List Nat) (a:BV) (x:Nat):orB I (l++[x]) a=orB I l a ||| I.getD x 0:=by
 unfold orB; rw[List.foldl_append]; rfl
theorem behind {p:Prog} {I:List BV} {i j x:Nat} (h:(nx p i)[j]? =some x) (hx:x<I.length):opI .or .i64 (orB I ((nx p i).take j) 0).toInt (gt (dF I) x 0)=(orB I ((nx p i).take (j+1)) 0).toInt:=by
 rw[gl hx,rq,cD,cD,List.take_add_one,h,Option.toList_some,yE]
end Go.Proofs.Ytghiofgomcihcaa
set_option linter.unusedSimpArgs false
set_option linter.unusedVariables false
set_option linter.unusedVariables false
set_option linter.unusedSimpArgs false
namespace Go.Proofs.Ytghiofgomcihcaa
open Go Go.RowKit
def aC (x:Ins):Ins:=
 if x.k=0 then⟨x.k,x.op,x.w,0,x.br &&!(x.op==8),x.d,if x.br=true∧x.op≠8 then x.s else 0,0,if x.br=true∨x.op=8 then 0 else x.imm⟩
 else if x.k=1∨x.k=2 then⟨x.k,0,0,x.sz,false,x.d,x.s,x.off,0⟩
 else if x.k=3 then⟨x.k,x.op,0,0,x.br,x.d,if x.br=true then x.s else 0,x.off,if x.br=true then 0 else x.imm⟩
 else if x.k=4 then⟨x.k,0,0,0,false,0,0,x.off,0⟩
 else if x.k=5 then⟨x.k,0,0,0,false,0,0,0,x.imm⟩
 else⟨x.k,0,0,0,false,0,0,0,0⟩
def bf (x:Ins):Bool:=
 if x.k=0 then(!decide (x.op<0))&&((!decide (12<x.op))&&((x.w==32||x.w==64)&&decide (x.d<10)))
 else if x.k=1 then aJ x.sz&&decide (x.d<10)
 else if x.k=2 then aJ x.sz
 else if x.k=3 then(!decide (x.op<0)) &&!decide (10<x.op)
 else if x.k=5 then(!decide (x.imm<0))&&decide (x.imm<16)
 else true
def be (x y:Ins):Bool:=(x.k==y.k)&&((x.op==y.op)&&((x.w==y.w)&&((x.sz==y.sz)&&((x.br==y.br)&&((x.d==y.d)&&((x.s==y.s)&&((x.off==y.off)&&(x.imm==y.imm))))))))
def jm (x:Ins):Bool:=(!decide (x.k<0))&&((!decide (6<x.k))&&(be x (aC x)&&((!decide (x.d<0))&&((!decide (10<x.d))&&((!decide (x.s<0))&&((!decide (10<x.s))&&((!decide (x.off < -32768))&&(decide (x.off<32768)&&((!decide (x.imm < -2147483648))&&(decide (x.imm<2147483648)&&bf x))))))))))
theorem az (x:Ins):imay x=jm x:=by
 obtain⟨k,op,w,sz,br,d,s,off,imm⟩:=x
 by_cases h0:k=0
 ·subst h0
  by_cases h8:op=8
  ·subst h8
   cases br<;>(rw[Bool.eq_iff_iff]; simp[imay,jm,ce,cz,aP,immz,be,aC,bf]; try omega)
  ·cases br<;>(rw[Bool.eq_iff_iff]; simp[imay,jm,ce,cz,aP,immz,be,aC,bf,h8]; try omega)
 by_cases h1:k=1
 ·subst h1
  cases br<;>(rw[Bool.eq_iff_iff]; simp[imay,jm,ce,cz,aP,immz,be,aC,bf]; try (cases aJ sz<;>simp<;>omega))
 by_cases h2:k=2
 ·subst h2
  cases br<;>(rw[Bool.eq_iff_iff]; simp[imay,jm,ce,cz,aP,immz,be,aC,bf]; try (cases aJ sz<;>simp<;>omega))
 by_cases h3:k=3
 ·subst h3
  cases br<;>(rw[Bool.eq_iff_iff]; simp[imay,jm,ce,cz,aP,immz,be,aC,bf]; try omega)
 by_cases h4:k=4
 ·subst h4
  cases br<;>(rw[Bool.eq_iff_iff]; simp[imay,jm,ce,cz,aP,immz,be,aC,bf]; try omega)
 by_cases h5:k=5
 ·subst h5
  cases br<;>(rw[Bool.eq_iff_iff]; simp[imay,jm,ce,cz,aP,immz,be,aC,bf]; try omega)
 by_cases h6:k=6
 ·subst h6
  cases br<;>(rw[Bool.eq_iff_iff]; simp[imay,jm,ce,cz,aP,immz,be,aC,bf]; try omega)
 ·have:¬(0≤k∧k≤6):=by omega
  rw[Bool.eq_iff_iff]
  simp[imay,jm,aP,h0,h1,h2,h3,h4,h5,h6]
  omega
theorem abw {p:Prog} (hl:p.l.length≤maxLen):p.last=(p.l.length:Int)-1:=by
 unfold Prog.last
 show IntKind.i64.wrap ((p.l.length:Int)-1)=_
 rw[fc]; simp[maxLen] at hl; omega
end Go.Proofs.Ytghiofgomcihcaa
