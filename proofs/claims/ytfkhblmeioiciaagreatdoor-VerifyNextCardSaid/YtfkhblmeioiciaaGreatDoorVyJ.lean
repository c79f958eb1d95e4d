import Derived.Test.YtfkhblmeioiciaaGreatDoorLiC
import Derived.Test.YtfkhblmeioiciaaGreatDoorLiJ
import Derived.Test.YtfkhblmeioiciaaGreatDoorSdB
import Derived.Test.YtfkhblmeioiciaaGreatDoorVyA
import Derived.Test.YtfkhblmeioiciaaGreatDoorProg
import Derived.Laws.Externs
set_option linter.unusedVariables false
set_option linter.unusedSimpArgs false
namespace Go.Proofs.YtfkhblmeioiciaaGreatDoor
open Go.RowKit Go.ChangeShapes Go.WideShapes
def tys_VyJ:List (Nat×TI):=[(3,⟨false,1,[.int .i64 (.lit 0)],[],none,some .i64,false,false,none,8,false,none,false,0⟩),
 (4,⟨false,1,[.bool (.tt false)],[],none,none,false,true,none,1,false,none,false,0⟩),
 (37,⟨false,1,[.int .i8 (.lit 0)],[],none,some .i8,false,false,none,1,false,none,false,0⟩),
 (39,⟨true,9,(zN 9 220090000),[(0,37),(1,37),(2,37),(3,37),(4,4),(5,37),(6,37),(7,3),(8,3)],none,none,true,false,none,24,false,none,false,0⟩)]
set_option maxRecDepth 100000 in
theorem zO:(tys_VyJ.all fun p=>ckTI Tryz.prog p.1 p.2)=true:=by kernel_rfl
theorem qr:(tys_VyJ.all fun p=>!p.2.eqok||((Nat.beq p.1 39&&aW p.2.zero mU)))=true:=by kernel_rfl
theorem zw:(tys_VyJ.all fun p=>!p.2.keyok)=true:=by kernel_rfl
theorem kX:∀t i,(t,i)∈tys_VyJ→TIok Tryz.prog t i:=by
 intro t i h
 refine bI (cM (f:=ckTI Tryz.prog) zO h) (fun he=> ?_) (fun he=> ?_) (fun he=> ?_)
 ·have h1:=List.all_eq_true.1 qr (t,i) h
  simp only[he,Bool.not_true,Bool.false_or,Bool.or_eq_true,Bool.and_eq_true] at h1
  have hs:=h1.2
  obtain rfl:=Nat.eq_of_beq_eq_true h1.1
  exact fun vs us hv hu=>nO vs us (ap hs hv) (ap hs hu)
 ·have h1:=List.all_eq_true.1 qr (t,i) h
  simp only[he,Bool.not_true,Bool.false_or,Bool.or_eq_true,Bool.and_eq_true] at h1
  have hs:=h1.2
  obtain rfl:=Nat.eq_of_beq_eq_true h1.1
  exact jL
 ·have h1:=List.all_eq_true.1 zw (t,i) h
  simp[he] at h1
def abL (key:Nat):Sm:=⟨60,key,[.one (.int .i8)],[.one .bool],false⟩
def aaX (n:Int):List Dt:=[.z (b2i (fQ n))]
def rt:List Dt→List Dt
 | [.z x0]=>aaX x0
 | _=>[]
def sT_jsz:Tr:=
(.br (.eq (.var 0) (.lit 1))
(.leaf (.consb (.tt true) .nil))
(.br (.eq (.var 0) (.lit 2))
(.leaf (.consb (.tt true) .nil))
(.br (.eq (.var 0) (.lit 4))
(.leaf (.consb (.tt true) .nil))
(.leaf (.consb (.eq (.var 0) (.lit 8)) .nil)))))
def af2:Spec:={F:=fun k=>match k with | _=>fun _=>[],pre:=fun k=>match k with | _=>fun _=>True}
set_option maxRecDepth 100000 in
theorem ako:am tys_VyJ [] [] [] [] 200 Tryz.f60 [.one (.int .i8)] [.one .bool] false [.int .i8] sT_jsz:=⟨by kernel_rfl,by kernel_rfl,by kernel_rfl⟩
set_option maxRecDepth 100000 in
set_option maxHeartbeats 8000000 in
theorem aj6 (n:Int) (hn:inK .i8 n=true) (ρ:Env) (g:af ρ 0 [.int .i8]=[.z n]):sT_jsz.asks af2 (fun ρ e=>e.D ρ=rt [.z n]) ρ fun _ _=>False:=by
 simp only[af,varD,List.cons.injEq,Dt.z.injEq,Dt.l.injEq,b2i_eq_iff,Nat.reduceAdd,and_true] at g
 simp only[sT_jsz,af2,rt,aaX,Tr.asks,ai,okDs,okD,eqs,E.I,E.B,E.L,E.R,E.D,E.vs,E.gs,E.ins,E.sv,E.tn,E.iv,E.zs,E.pv,Nat.reduceSub,dI,dB,dL,varD,af,S1,Nat.reduceAdd,-eq_self,aj,Prog.eta,Ins.eta,aa,ab,g]
 constructor<;>intro c0
 ·(refine zb ?_; unfold fQ; rw[Bool.eq_iff_iff]; simp at *; omega)
 constructor<;>intro c1
 ·(refine zb ?_; unfold fQ; rw[Bool.eq_iff_iff]; simp at *; omega)
 constructor<;>intro c2
 ·(refine zb ?_; unfold fQ; rw[Bool.eq_iff_iff]; simp at *; omega)
 ·(refine zb ?_; unfold fQ; rw[Bool.eq_iff_iff]; simp at *; omega)
theorem akF {sp:Spec} {key:Nat} (hF:sp.F key=rt) (hP:sp.pre key=fun _=>True:=by rfl):SmOk Tryz.prog sp (abL key):=
 an (s:=abL key) hF hP (by kernel_rfl) kX (sm0) Tryz.func60 fn0 ako (.inl rfl) (fun x0 gx0 hp ρ g=>aj6 x0 gx0 ρ g)
def jt (key:Nat):Sm:=⟨59,key,[.agg kIns],[.agg kIns],false⟩
def jn (x:Ins):List Dt:=[.z ((aH x).k),.z ((aH x).op),.z ((aH x).w),.z ((aH x).sz),.z (b2i ((aH x).br)),.z ((aH x).d),.z ((aH x).s),.z ((aH x).off),.z ((aH x).imm)]
def dQ:List Dt→List Dt
 | [.z x0,.z x1,.z x2,.z x3,.z x4,.z x5,.z x6,.z x7,.z x8]=>jn ⟨x0,x1,x2,x3,(x4==1),x5,x6,x7,x8⟩
 | _=>[]
def sT_jfields:Tr:=
(.br (.eq (.var 0) (.lit 0))
(.br (.bvar 4)
(.br (.eq (.var 1) (.lit 8))
(.leaf (.vs 0 3 (.cons (.lit 0) (.consb (.not (.eq (.var 1) (.lit 8))) (.cons (.var 5) (.zs [0,0,0] .nil))))))
(.leaf (.vs 0 3 (.cons (.lit 0) (.consb (.not (.eq (.var 1) (.lit 8))) (.vs 5 2 (.cons (.lit 0) (.cons (.lit 0) .nil))))))))
(.br (.eq (.var 1) (.lit 8))
(.leaf (.vs 0 3 (.cons (.lit 0) (.consb (.tt false) (.cons (.var 5) (.zs [0,0,0] .nil))))))
(.leaf (.vs 0 3 (.cons (.lit 0) (.consb (.tt false) (.cons (.var 5) (.cons (.lit 0) (.cons (.lit 0) (.cons (.var 8) .nil))))))))))
(.br (.eq (.var 0) (.lit 1))
(.leaf (.cons (.var 0) (.cons (.lit 0) (.cons (.lit 0) (.cons (.var 3) (.consb (.tt false) (.vs 5 3 (.cons (.lit 0) .nil))))))))
(.br (.eq (.var 0) (.lit 2))
(.leaf (.cons (.var 0) (.cons (.lit 0) (.cons (.lit 0) (.cons (.var 3) (.consb (.tt false) (.vs 5 3 (.cons (.lit 0) .nil))))))))
(.br (.eq (.var 0) (.lit 3))
(.br (.bvar 4)
(.leaf (.vs 0 2 (.cons (.lit 0) (.cons (.lit 0) (.consb (.bvar 4) (.vs 5 3 (.cons (.lit 0) .nil)))))))
(.leaf (.vs 0 2 (.cons (.lit 0) (.cons (.lit 0) (.consb (.bvar 4) (.cons (.var 5) (.cons (.lit 0) (.vs 7 2 .nil)))))))))
(.br (.eq (.var 0) (.lit 4))
(.leaf (.cons (.var 0) (.zs [0,0,0] (.consb (.tt false) (.cons (.lit 0) (.cons (.lit 0) (.cons (.var 7) (.cons (.lit 0) .nil))))))))
(.br (.eq (.var 0) (.lit 5))
(.leaf (.cons (.var 0) (.zs [0,0,0] (.consb (.tt false) (.zs [0,0,0] (.cons (.var 8) .nil))))))
(.leaf (.cons (.var 0) (.zs [0,0,0] (.consb (.tt false) (.zs [0,0,0,0] .nil)))))))))))
def nq:Spec:={F:=fun k=>match k with | _=>fun _=>[],pre:=fun k=>match k with | _=>fun _=>True}
set_option maxRecDepth 100000 in
theorem xR:am tys_VyJ [] [] [] [] 200 Tryz.f59 [.agg kIns] [.agg kIns] false [.int .i8,.int .i8,.int .i8,.int .i8,.bool,.int .i8,.int .i8,.int .i64,.int .i64] sT_jfields:=⟨by kernel_rfl,by kernel_rfl,by kernel_rfl⟩
set_option maxRecDepth 100000 in
set_option maxHeartbeats 8000000 in
theorem xM (x:Ins) (hx:Ins.ok x) (ρ:Env) (g:af ρ 0 [.int .i8,.int .i8,.int .i8,.int .i8,.bool,.int .i8,.int .i8,.int .i64,.int .i64]=[.z x.k,.z x.op,.z x.w,.z x.sz,.z (b2i x.br),.z x.d,.z x.s,.z x.off,.z x.imm]):sT_jfields.asks nq (fun ρ e=>e.D ρ=dQ [.z x.k,.z x.op,.z x.w,.z x.sz,.z (b2i x.br),.z x.d,.z x.s,.z x.off,.z x.imm]) ρ fun _ _=>False:=by
 simp only[af,varD,List.cons.injEq,Dt.z.injEq,Dt.l.injEq,b2i_eq_iff,Nat.reduceAdd,and_true] at g
 simp only[sT_jfields,nq,dQ,jn,Tr.asks,ai,okDs,okD,eqs,E.I,E.B,E.L,E.R,E.D,E.vs,E.gs,E.ins,E.sv,E.tn,E.iv,E.zs,E.pv,Nat.reduceSub,dI,dB,dL,varD,af,S1,Nat.reduceAdd,-eq_self,aj,Prog.eta,Ins.eta,aa,ab,g]
 constructor<;>intro c0
 constructor<;>intro c1
 constructor<;>intro c2
 ·(unfold aH; simp_all)
 ·(unfold aH; simp_all)
 constructor<;>intro c3
 ·(unfold aH; simp_all)
 ·(unfold aH; simp_all)
 constructor<;>intro c4
 ·(unfold aH; simp_all)
 constructor<;>intro c5
 ·(unfold aH; simp_all)
 constructor<;>intro c6
 constructor<;>intro c7
 ·(unfold aH; simp_all)
 ·(unfold aH; simp_all)
 constructor<;>intro c8
 ·(unfold aH; simp_all)
 constructor<;>intro c9
 ·(unfold aH; simp_all)
 ·(unfold aH; simp_all)
theorem xW {sp:Spec} {key:Nat} (hF:sp.F key=dQ) (hP:sp.pre key=fun _=>True:=by rfl):SmOk Tryz.prog sp (jt key):=
 an (s:=jt key) hF hP (by kernel_rfl) kX (sm0) Tryz.func59 fn0 xR (.inl rfl) (fun x0 gx0 x1 gx1 x2 gx2 x3 gx3 x4 x5 gx5 x6 gx6 x7 gx7 x8 gx8 hp ρ g=>xM ⟨x0,x1,x2,x3,x4,x5,x6,x7,x8⟩ ⟨gx0,gx1,gx2,gx3,gx5,gx6,gx7,gx8⟩ ρ g)
def tP (key:Nat):Sm:=⟨23,key,[.agg kIns],[.one .bool],false⟩
def tq (x:Ins):List Dt:=[.z (b2i (imay x))]
def me:List Dt→List Dt
 | [.z x0,.z x1,.z x2,.z x3,.z x4,.z x5,.z x6,.z x7,.z x8]=>tq ⟨x0,x1,x2,x3,(x4==1),x5,x6,x7,x8⟩
 | _=>[]
def sT_jmay:Tr:=
(.br (.lt (.var 0) (.lit 0))
(.leaf (.consb (.tt false) .nil))
(.br (.lt (.lit 6) (.var 0))
(.leaf (.consb (.tt false) .nil))
(.call 1 (kIns) (.vs 0 4 (.consb (.bvar 4) (.vs 5 4 .nil))) 9
(.br (.eq (.var 0) (.var 9))
(.br (.eq (.var 1) (.var 10))
(.br (.eq (.var 2) (.var 11))
(.br (.eq (.var 3) (.var 12))
(.br (.beq (.bvar 4) (.bvar 13))
(.br (.eq (.var 5) (.var 14))
(.br (.eq (.var 6) (.var 15))
(.br (.eq (.var 7) (.var 16))
(.br (.eq (.var 8) (.var 17))
(.br (.lt (.var 5) (.lit 0))
(.leaf (.consb (.tt false) .nil))
(.br (.lt (.lit 10) (.var 5))
(.leaf (.consb (.tt false) .nil))
(.br (.lt (.var 6) (.lit 0))
(.leaf (.consb (.tt false) .nil))
(.br (.lt (.lit 10) (.var 6))
(.leaf (.consb (.tt false) .nil))
(.br (.lt (.var 7) (.lit (-32768)))
(.leaf (.consb (.tt false) .nil))
(.br (.lt (.var 7) (.lit 32768))
(.br (.lt (.var 8) (.lit (-2147483648)))
(.leaf (.consb (.tt false) .nil))
(.br (.lt (.var 8) (.lit 2147483648))
(.br (.eq (.var 0) (.lit 0))
(.br (.lt (.var 1) (.lit 0))
(.leaf (.consb (.tt false) .nil))
(.br (.lt (.lit 12) (.var 1))
(.leaf (.consb (.tt false) .nil))
(.br (.eq (.var 2) (.lit 32))
(.leaf (.consb (.lt (.var 5) (.lit 10)) .nil))
(.br (.eq (.var 2) (.lit 64))
(.leaf (.consb (.lt (.var 5) (.lit 10)) .nil))
(.leaf (.consb (.tt false) .nil))))))
(.br (.eq (.var 0) (.lit 1))
(.call 0 [.bool] (.cons (.var 3) .nil) 18
(.br (.bvar 18)
(.leaf (.consb (.lt (.var 5) (.lit 10)) .nil))
(.leaf (.consb (.tt false) .nil))))
(.br (.eq (.var 0) (.lit 2))
(.call 0 [.bool] (.cons (.var 3) .nil) 18
(.leaf (.consb (.bvar 18) .nil)))
(.br (.eq (.var 0) (.lit 3))
(.br (.lt (.var 1) (.lit 0))
(.leaf (.consb (.tt false) .nil))
(.leaf (.consb (.not (.lt (.lit 10) (.var 1))) .nil)))
(.br (.eq (.var 0) (.lit 5))
(.br (.lt (.var 8) (.lit 0))
(.leaf (.consb (.tt false) .nil))
(.leaf (.consb (.lt (.var 8) (.lit 16)) .nil)))
(.leaf (.consb (.tt true) .nil)))))))
(.leaf (.consb (.tt false) .nil))))
(.leaf (.consb (.tt false) .nil))))))))
(.leaf (.consb (.tt false) .nil)))
(.leaf (.consb (.tt false) .nil)))
(.leaf (.consb (.tt false) .nil)))
(.leaf (.consb (.tt false) .nil)))
(.leaf (.consb (.tt false) .nil)))
(.leaf (.consb (.tt false) .nil)))
(.leaf (.consb (.tt false) .nil)))
(.leaf (.consb (.tt false) .nil)))
(.leaf (.consb (.tt false) .nil))))))
def abA:Spec:={F:=fun k=>match k with | 0=>rt | 1=>dQ | _=>fun _=>[],pre:=fun k=>match k with | _=>fun _=>True}
set_option maxRecDepth 100000 in
theorem ah9:am tys_VyJ [abL 0,jt 1] [] [] [] 200 Tryz.f23 [.agg kIns] [.one .bool] false [.int .i8,.int .i8,.int .i8,.int .i8,.bool,.int .i8,.int .i8,.int .i64,.int .i64] sT_jmay:=⟨by kernel_rfl,by kernel_rfl,by kernel_rfl⟩
set_option maxRecDepth 100000 in
set_option maxHeartbeats 8000000 in
theorem ahz (x:Ins) (hx:Ins.ok x) (ρ:Env) (g:af ρ 0 [.int .i8,.int .i8,.int .i8,.int .i8,.bool,.int .i8,.int .i8,.int .i64,.int .i64]=[.z x.k,.z x.op,.z x.w,.z x.sz,.z (b2i x.br),.z x.d,.z x.s,.z x.off,.z x.imm]):sT_jmay.asks abA (fun ρ e=>e.D ρ=me [.z x.k,.z x.op,.z x.w,.z x.sz,.z (b2i x.br),.z x.d,.z x.s,.z x.off,.z x.imm]) ρ fun _ _=>False:=by
 simp only[af,varD,List.cons.injEq,Dt.z.injEq,Dt.l.injEq,b2i_eq_iff,Nat.reduceAdd,and_true] at g
 simp only[sT_jmay,abA,kIns,rt,dQ,aaX,jn,me,tq,Tr.asks,ai,okDs,okD,eqs,E.I,E.B,E.L,E.R,E.D,E.vs,E.gs,E.ins,E.sv,E.tn,E.iv,E.zs,E.pv,Nat.reduceSub,dI,dB,dL,varD,af,S1,Nat.reduceAdd,-eq_self,aj,Prog.eta,Ins.eta,aa,ab,g]
 constructor<;>intro c0
 ·simp only[aE,jm,bc,c0,Bool.not_true,Bool.not_false,Bool.true_and,Bool.and_true,Bool.false_and,Bool.and_false,Bool.true_or,Bool.false_or,Bool.or_true,Bool.or_false]<;>simp only[be,c0,reduceIte,Int.reduceEq,Bool.not_true,Bool.not_false,Bool.true_and,Bool.and_true,Bool.false_and,Bool.and_false,Bool.true_or,Bool.false_or,Bool.or_true,Bool.or_false]
 constructor<;>intro c1
 ·simp only[aE,jm,bc,c0,c1,Bool.not_true,Bool.not_false,Bool.true_and,Bool.and_true,Bool.false_and,Bool.and_false,Bool.true_or,Bool.false_or,Bool.or_true,Bool.or_false]<;>simp only[be,c0,c1,reduceIte,Int.reduceEq,Bool.not_true,Bool.not_false,Bool.true_and,Bool.and_true,Bool.false_and,Bool.and_false,Bool.true_or,Bool.false_or,Bool.or_true,Bool.or_false]
 intro e; (try simp only[e,aj,Prog.eta,Ins.eta,aa,ab,-eq_self]); clear e
 constructor<;>intro c2
 constructor<;>intro c3
 constructor<;>intro c4
 constructor<;>intro c5
 constructor<;>intro c6
 constructor<;>intro c7
 constructor<;>intro c8
 constructor<;>intro c9
 constructor<;>intro c10
 constructor<;>intro c11
 ·simp only[aE,jm,bc,c0,c1,c2,c3,c4,c5,c6,c7,c8,c9,c10,c11,Bool.not_true,Bool.not_false,Bool.true_and,Bool.and_true,Bool.false_and,Bool.and_false,Bool.true_or,Bool.false_or,Bool.or_true,Bool.or_false]<;>simp only[be,c8,c9,c10,c11,reduceIte,Int.reduceEq,Bool.not_true,Bool.not_false,Bool.true_and,Bool.and_true,Bool.false_and,Bool.and_false,Bool.true_or,Bool.false_or,Bool.or_true,Bool.or_false]
 constructor<;>intro c12
 ·simp only[aE,jm,bc,c0,c1,c2,c3,c4,c5,c6,c7,c8,c9,c10,c11,c12,Bool.not_true,Bool.not_false,Bool.true_and,Bool.and_true,Bool.false_and,Bool.and_false,Bool.true_or,Bool.false_or,Bool.or_true,Bool.or_false]<;>simp only[be,c9,c10,c11,c12,reduceIte,Int.reduceEq,Bool.not_true,Bool.not_false,Bool.true_and,Bool.and_true,Bool.false_and,Bool.and_false,Bool.true_or,Bool.false_or,Bool.or_true,Bool.or_false]
 constructor<;>intro c13
 ·simp only[aE,jm,bc,c0,c1,c2,c3,c4,c5,c6,c7,c8,c9,c10,c11,c12,c13,Bool.not_true,Bool.not_false,Bool.true_and,Bool.and_true,Bool.false_and,Bool.and_false,Bool.true_or,Bool.false_or,Bool.or_true,Bool.or_false]<;>simp only[be,c10,c11,c12,c13,reduceIte,Int.reduceEq,Bool.not_true,Bool.not_false,Bool.true_and,Bool.and_true,Bool.false_and,Bool.and_false,Bool.true_or,Bool.false_or,Bool.or_true,Bool.or_false]
 constructor<;>intro c14
 ·simp only[aE,jm,bc,c0,c1,c2,c3,c4,c5,c6,c7,c8,c9,c10,c11,c12,c13,c14,Bool.not_true,Bool.not_false,Bool.true_and,Bool.and_true,Bool.false_and,Bool.and_false,Bool.true_or,Bool.false_or,Bool.or_true,Bool.or_false]<;>simp only[be,c11,c12,c13,c14,reduceIte,Int.reduceEq,Bool.not_true,Bool.not_false,Bool.true_and,Bool.and_true,Bool.false_and,Bool.and_false,Bool.true_or,Bool.false_or,Bool.or_true,Bool.or_false]
 constructor<;>intro c15
 ·simp only[aE,jm,bc,c0,c1,c2,c3,c4,c5,c6,c7,c8,c9,c10,c11,c12,c13,c14,c15,Bool.not_true,Bool.not_false,Bool.true_and,Bool.and_true,Bool.false_and,Bool.and_false,Bool.true_or,Bool.false_or,Bool.or_true,Bool.or_false]<;>simp only[be,c12,c13,c14,c15,reduceIte,Int.reduceEq,Bool.not_true,Bool.not_false,Bool.true_and,Bool.and_true,Bool.false_and,Bool.and_false,Bool.true_or,Bool.false_or,Bool.or_true,Bool.or_false]
 constructor<;>intro c16
 constructor<;>intro c17
 ·simp only[aE,jm,bc,c0,c1,c2,c3,c4,c5,c6,c7,c8,c9,c10,c11,c12,c13,c14,c15,c16,c17,Bool.not_true,Bool.not_false,Bool.true_and,Bool.and_true,Bool.false_and,Bool.and_false,Bool.true_or,Bool.false_or,Bool.or_true,Bool.or_false]<;>simp only[be,c14,c15,c16,c17,reduceIte,Int.reduceEq,Bool.not_true,Bool.not_false,Bool.true_and,Bool.and_true,Bool.false_and,Bool.and_false,Bool.true_or,Bool.false_or,Bool.or_true,Bool.or_false]
 constructor<;>intro c18
 constructor<;>intro c19
 constructor<;>intro c20
 ·simp only[aE,jm,bc,c0,c1,c2,c3,c4,c5,c6,c7,c8,c9,c10,c11,c12,c13,c14,c15,c16,c17,c18,c19,c20,Bool.not_true,Bool.not_false,Bool.true_and,Bool.and_true,Bool.false_and,Bool.and_false,Bool.true_or,Bool.false_or,Bool.or_true,Bool.or_false]<;>simp only[be,eqI c19,c17,c18,c19,c20,reduceIte,Int.reduceEq,Bool.not_true,Bool.not_false,Bool.true_and,Bool.and_true,Bool.false_and,Bool.and_false,Bool.true_or,Bool.false_or,Bool.or_true,Bool.or_false]
 constructor<;>intro c21
 ·simp only[aE,jm,bc,c0,c1,c2,c3,c4,c5,c6,c7,c8,c9,c10,c11,c12,c13,c14,c15,c16,c17,c18,c19,c20,c21,Bool.not_true,Bool.not_false,Bool.true_and,Bool.and_true,Bool.false_and,Bool.and_false,Bool.true_or,Bool.false_or,Bool.or_true,Bool.or_false]<;>simp only[be,eqI c19,c18,c19,c20,c21,reduceIte,Int.reduceEq,Bool.not_true,Bool.not_false,Bool.true_and,Bool.and_true,Bool.false_and,Bool.and_false,Bool.true_or,Bool.false_or,Bool.or_true,Bool.or_false]
 constructor<;>intro c22
 ·simp only[aE,jm,bc,c0,c1,c2,c3,c4,c5,c6,c7,c8,c9,c10,c11,c12,c13,c14,c15,c16,c17,c18,c19,c20,c21,c22,Bool.not_true,Bool.not_false,Bool.true_and,Bool.and_true,Bool.false_and,Bool.and_false,Bool.true_or,Bool.false_or,Bool.or_true,Bool.or_false]<;>simp only[be,eqI c19,c19,c20,c21,c22,reduceIte,Int.reduceEq,Bool.not_true,Bool.not_false,Bool.true_and,Bool.and_true,Bool.false_and,Bool.and_false,Bool.true_or,Bool.false_or,Bool.or_true,Bool.or_false]
 constructor<;>intro c23
 ·simp only[aE,jm,bc,c0,c1,c2,c3,c4,c5,c6,c7,c8,c9,c10,c11,c12,c13,c14,c15,c16,c17,c18,c19,c20,c21,c22,c23,Bool.not_true,Bool.not_false,Bool.true_and,Bool.and_true,Bool.false_and,Bool.and_false,Bool.true_or,Bool.false_or,Bool.or_true,Bool.or_false]<;>simp only[be,eqI c19,c20,c21,c22,c23,reduceIte,Int.reduceEq,Bool.not_true,Bool.not_false,Bool.true_and,Bool.and_true,Bool.false_and,Bool.and_false,Bool.true_or,Bool.false_or,Bool.or_true,Bool.or_false]
 ·simp only[aE,jm,bc,c0,c1,c2,c3,c4,c5,c6,c7,c8,c9,c10,c11,c12,c13,c14,c15,c16,c17,c18,c19,c20,c21,c22,c23,Bool.not_true,Bool.not_false,Bool.true_and,Bool.and_true,Bool.false_and,Bool.and_false,Bool.true_or,Bool.false_or,Bool.or_true,Bool.or_false]<;>simp only[be,eqI c19,c20,c21,c22,c23,reduceIte,Int.reduceEq,Bool.not_true,Bool.not_false,Bool.true_and,Bool.and_true,Bool.false_and,Bool.and_false,Bool.true_or,Bool.false_or,Bool.or_true,Bool.or_false]
 constructor<;>intro c24
 intro e; (try simp only[e,aj,Prog.eta,Ins.eta,aa,ab,-eq_self]); clear e
 constructor<;>intro c25
 ·simp only[aE,jm,bc,c0,c1,c2,c3,c4,c5,c6,c7,c8,c9,c10,c11,c12,c13,c14,c15,c16,c17,c18,c19,c24,c25,Bool.not_true,Bool.not_false,Bool.true_and,Bool.and_true,Bool.false_and,Bool.and_false,Bool.true_or,Bool.false_or,Bool.or_true,Bool.or_false]<;>simp only[be,neI c19,eqI c24,c18,c19,c24,c25,reduceIte,Int.reduceEq,Bool.not_true,Bool.not_false,Bool.true_and,Bool.and_true,Bool.false_and,Bool.and_false,Bool.true_or,Bool.false_or,Bool.or_true,Bool.or_false]
 ·simp only[aE,jm,bc,c0,c1,c2,c3,c4,c5,c6,c7,c8,c9,c10,c11,c12,c13,c14,c15,c16,c17,c18,c19,c24,c25,Bool.not_true,Bool.not_false,Bool.true_and,Bool.and_true,Bool.false_and,Bool.and_false,Bool.true_or,Bool.false_or,Bool.or_true,Bool.or_false]<;>simp only[be,neI c19,eqI c24,c18,c19,c24,c25,reduceIte,Int.reduceEq,Bool.not_true,Bool.not_false,Bool.true_and,Bool.and_true,Bool.false_and,Bool.and_false,Bool.true_or,Bool.false_or,Bool.or_true,Bool.or_false]
 constructor<;>intro c26
 intro e; (try simp only[e,aj,Prog.eta,Ins.eta,aa,ab,-eq_self]); clear e
 ·simp only[aE,jm,bc,c0,c1,c2,c3,c4,c5,c6,c7,c8,c9,c10,c11,c12,c13,c14,c15,c16,c17,c18,c19,c24,c26,Bool.not_true,Bool.not_false,Bool.true_and,Bool.and_true,Bool.false_and,Bool.and_false,Bool.true_or,Bool.false_or,Bool.or_true,Bool.or_false]<;>simp only[be,neI c19,neI c24,eqI c26,c18,c19,c24,c26,reduceIte,Int.reduceEq,Bool.not_true,Bool.not_false,Bool.true_and,Bool.and_true,Bool.false_and,Bool.and_false,Bool.true_or,Bool.false_or,Bool.or_true,Bool.or_false]
 constructor<;>intro c27
 constructor<;>intro c28
 ·simp only[aE,jm,bc,c0,c1,c2,c3,c4,c5,c6,c7,c8,c9,c10,c11,c12,c13,c14,c15,c16,c17,c18,c19,c24,c26,c27,c28,Bool.not_true,Bool.not_false,Bool.true_and,Bool.and_true,Bool.false_and,Bool.and_false,Bool.true_or,Bool.false_or,Bool.or_true,Bool.or_false]<;>simp only[be,neI c19,neI c24,neI c26,eqI c27,c24,c26,c27,c28,reduceIte,Int.reduceEq,Bool.not_true,Bool.not_false,Bool.true_and,Bool.and_true,Bool.false_and,Bool.and_false,Bool.true_or,Bool.false_or,Bool.or_true,Bool.or_false]
 ·simp only[aE,jm,bc,c0,c1,c2,c3,c4,c5,c6,c7,c8,c9,c10,c11,c12,c13,c14,c15,c16,c17,c18,c19,c24,c26,c27,c28,Bool.not_true,Bool.not_false,Bool.true_and,Bool.and_true,Bool.false_and,Bool.and_false,Bool.true_or,Bool.false_or,Bool.or_true,Bool.or_false]<;>simp only[be,neI c19,neI c24,neI c26,eqI c27,c24,c26,c27,c28,reduceIte,Int.reduceEq,Bool.not_true,Bool.not_false,Bool.true_and,Bool.and_true,Bool.false_and,Bool.and_false,Bool.true_or,Bool.false_or,Bool.or_true,Bool.or_false]
 constructor<;>intro c29
 constructor<;>intro c30
 ·simp only[aE,jm,bc,c0,c1,c2,c3,c4,c5,c6,c7,c8,c9,c10,c11,c12,c13,c14,c15,c16,c17,c18,c19,c24,c26,c27,c29,c30,Bool.not_true,Bool.not_false,Bool.true_and,Bool.and_true,Bool.false_and,Bool.and_false,Bool.true_or,Bool.false_or,Bool.or_true,Bool.or_false]<;>simp only[be,neI c19,neI c24,neI c26,neI c27,eqI c29,c26,c27,c29,c30,reduceIte,Int.reduceEq,Bool.not_true,Bool.not_false,Bool.true_and,Bool.and_true,Bool.false_and,Bool.and_false,Bool.true_or,Bool.false_or,Bool.or_true,Bool.or_false]
 ·simp only[aE,jm,bc,c0,c1,c2,c3,c4,c5,c6,c7,c8,c9,c10,c11,c12,c13,c14,c15,c16,c17,c18,c19,c24,c26,c27,c29,c30,Bool.not_true,Bool.not_false,Bool.true_and,Bool.and_true,Bool.false_and,Bool.and_false,Bool.true_or,Bool.false_or,Bool.or_true,Bool.or_false]<;>simp only[be,neI c19,neI c24,neI c26,neI c27,eqI c29,c26,c27,c29,c30,reduceIte,Int.reduceEq,Bool.not_true,Bool.not_false,Bool.true_and,Bool.and_true,Bool.false_and,Bool.and_false,Bool.true_or,Bool.false_or,Bool.or_true,Bool.or_false]
 ·simp only[aE,jm,bc,c0,c1,c2,c3,c4,c5,c6,c7,c8,c9,c10,c11,c12,c13,c14,c15,c16,c17,c18,c19,c24,c26,c27,c29,Bool.not_true,Bool.not_false,Bool.true_and,Bool.and_true,Bool.false_and,Bool.and_false,Bool.true_or,Bool.false_or,Bool.or_true,Bool.or_false]<;>simp only[be,neI c19,neI c24,neI c26,neI c27,neI c29,c24,c26,c27,c29,reduceIte,Int.reduceEq,Bool.not_true,Bool.not_false,Bool.true_and,Bool.and_true,Bool.false_and,Bool.and_false,Bool.true_or,Bool.false_or,Bool.or_true,Bool.or_false]
 ·simp only[aE,jm,bc,c0,c1,c2,c3,c4,c5,c6,c7,c8,c9,c10,c11,c12,c13,c14,c15,c16,c17,c18,Bool.not_true,Bool.not_false,Bool.true_and,Bool.and_true,Bool.false_and,Bool.and_false,Bool.true_or,Bool.false_or,Bool.or_true,Bool.or_false]<;>simp only[be,c15,c16,c17,c18,reduceIte,Int.reduceEq,Bool.not_true,Bool.not_false,Bool.true_and,Bool.and_true,Bool.false_and,Bool.and_false,Bool.true_or,Bool.false_or,Bool.or_true,Bool.or_false]
 ·simp only[aE,jm,bc,c0,c1,c2,c3,c4,c5,c6,c7,c8,c9,c10,c11,c12,c13,c14,c15,c16,Bool.not_true,Bool.not_false,Bool.true_and,Bool.and_true,Bool.false_and,Bool.and_false,Bool.true_or,Bool.false_or,Bool.or_true,Bool.or_false]<;>simp only[be,c13,c14,c15,c16,reduceIte,Int.reduceEq,Bool.not_true,Bool.not_false,Bool.true_and,Bool.and_true,Bool.false_and,Bool.and_false,Bool.true_or,Bool.false_or,Bool.or_true,Bool.or_false]
 ·simp only[aE,jm,bc,c0,c1,c2,c3,c4,c5,c6,c7,c8,c9,c10,Bool.not_true,Bool.not_false,Bool.true_and,Bool.and_true,Bool.false_and,Bool.and_false,Bool.true_or,Bool.false_or,Bool.or_true,Bool.or_false]<;>simp only[be,c7,c8,c9,c10,reduceIte,Int.reduceEq,Bool.not_true,Bool.not_false,Bool.true_and,Bool.and_true,Bool.false_and,Bool.and_false,Bool.true_or,Bool.false_or,Bool.or_true,Bool.or_false]
 ·simp only[aE,jm,bc,c0,c1,c2,c3,c4,c5,c6,c7,c8,c9,Bool.not_true,Bool.not_false,Bool.true_and,Bool.and_true,Bool.false_and,Bool.and_false,Bool.true_or,Bool.false_or,Bool.or_true,Bool.or_false]<;>simp only[be,c6,c7,c8,c9,reduceIte,Int.reduceEq,Bool.not_true,Bool.not_false,Bool.true_and,Bool.and_true,Bool.false_and,Bool.and_false,Bool.true_or,Bool.false_or,Bool.or_true,Bool.or_false]
 ·simp only[aE,jm,bc,c0,c1,c2,c3,c4,c5,c6,c7,c8,Bool.not_true,Bool.not_false,Bool.true_and,Bool.and_true,Bool.false_and,Bool.and_false,Bool.true_or,Bool.false_or,Bool.or_true,Bool.or_false]<;>simp only[be,c5,c6,c7,c8,reduceIte,Int.reduceEq,Bool.not_true,Bool.not_false,Bool.true_and,Bool.and_true,Bool.false_and,Bool.and_false,Bool.true_or,Bool.false_or,Bool.or_true,Bool.or_false]
 ·simp only[aE,jm,bc,c0,c1,c2,c3,c4,c5,c6,c7,Bool.not_true,Bool.not_false,Bool.true_and,Bool.and_true,Bool.false_and,Bool.and_false,Bool.true_or,Bool.false_or,Bool.or_true,Bool.or_false]<;>simp only[be,c4,c5,c6,c7,reduceIte,Int.reduceEq,Bool.not_true,Bool.not_false,Bool.true_and,Bool.and_true,Bool.false_and,Bool.and_false,Bool.true_or,Bool.false_or,Bool.or_true,Bool.or_false]
 ·simp only[aE,jm,bc,c0,c1,c2,c3,c4,c5,c6,Bool.not_true,Bool.not_false,Bool.true_and,Bool.and_true,Bool.false_and,Bool.and_false,Bool.true_or,Bool.false_or,Bool.or_true,Bool.or_false]<;>simp only[be,c3,c4,c5,c6,reduceIte,Int.reduceEq,Bool.not_true,Bool.not_false,Bool.true_and,Bool.and_true,Bool.false_and,Bool.and_false,Bool.true_or,Bool.false_or,Bool.or_true,Bool.or_false]
 ·simp only[aE,jm,bc,c0,c1,c2,c3,c4,c5,Bool.not_true,Bool.not_false,Bool.true_and,Bool.and_true,Bool.false_and,Bool.and_false,Bool.true_or,Bool.false_or,Bool.or_true,Bool.or_false]<;>simp only[be,c2,c3,c4,c5,reduceIte,Int.reduceEq,Bool.not_true,Bool.not_false,Bool.true_and,Bool.and_true,Bool.false_and,Bool.and_false,Bool.true_or,Bool.false_or,Bool.or_true,Bool.or_false]
 ·simp only[aE,jm,bc,c0,c1,c2,c3,c4,Bool.not_true,Bool.not_false,Bool.true_and,Bool.and_true,Bool.false_and,Bool.and_false,Bool.true_or,Bool.false_or,Bool.or_true,Bool.or_false]<;>simp only[be,c1,c2,c3,c4,reduceIte,Int.reduceEq,Bool.not_true,Bool.not_false,Bool.true_and,Bool.and_true,Bool.false_and,Bool.and_false,Bool.true_or,Bool.false_or,Bool.or_true,Bool.or_false]
 ·simp only[aE,jm,bc,c0,c1,c2,c3,Bool.not_true,Bool.not_false,Bool.true_and,Bool.and_true,Bool.false_and,Bool.and_false,Bool.true_or,Bool.false_or,Bool.or_true,Bool.or_false]<;>simp only[be,c0,c1,c2,c3,reduceIte,Int.reduceEq,Bool.not_true,Bool.not_false,Bool.true_and,Bool.and_true,Bool.false_and,Bool.and_false,Bool.true_or,Bool.false_or,Bool.or_true,Bool.or_false]
 ·simp only[aE,jm,bc,c0,c1,c2,Bool.not_true,Bool.not_false,Bool.true_and,Bool.and_true,Bool.false_and,Bool.and_false,Bool.true_or,Bool.false_or,Bool.or_true,Bool.or_false]<;>simp only[be,c0,c1,c2,reduceIte,Int.reduceEq,Bool.not_true,Bool.not_false,Bool.true_and,Bool.and_true,Bool.false_and,Bool.and_false,Bool.true_or,Bool.false_or,Bool.or_true,Bool.or_false]
theorem aiu {sp:Spec} {key:Nat} (hF:sp.F key=me) (hP:sp.pre key=fun _=>True:=by rfl):SmOk Tryz.prog sp (tP key):=
 an (s:=tP key) hF hP (by kernel_rfl) kX (smc (akF rfl) (smc (xW rfl) sm0)) Tryz.func23 fn0 ah9 (.inl rfl) (fun x0 gx0 x1 gx1 x2 gx2 x3 gx3 x4 x5 gx5 x6 gx6 x7 gx7 x8 gx8 hp ρ g=>ahz ⟨x0,x1,x2,x3,x4,x5,x6,x7,x8⟩ ⟨gx0,gx1,gx2,gx3,gx5,gx6,gx7,gx8⟩ ρ g)
end Go.Proofs.YtfkhblmeioiciaaGreatDoor
