import Derived.Test.YtfkhblmeioiciaaGreatDoorLiA
import Derived.Test.YtfkhblmeioiciaaGreatDoorProg
import Derived.Laws.Externs
set_option maxRecDepth 100000
set_option maxHeartbeats 8000000
set_option linter.unusedVariables false
set_option linter.unusedSimpArgs false
namespace Go.Proofs.YtfkhblmeioiciaaGreatDoor
open Go.RowKit Go.ChangeShapes Go.WideShapes
theorem Ins.eta (a:Ins):(⟨a.k,a.op,a.w,a.sz,a.br,a.d,a.s,a.off,a.imm⟩:Ins)=a:=rfl
def Ins.ok (a:Ins):Prop:=inK .i8 a.k=true/\inK .i8 a.op=true/\inK .i8 a.w=true/\inK .i8 a.sz=true/\inK .i8 a.d=true/\inK .i8 a.s=true/\inK .i64 a.off=true/\inK .i64 a.imm=true
def kIns:List CK:=[.int .i8,.int .i8,.int .i8,.int .i8,.bool,.int .i8,.int .i8,.int .i64,.int .i64]
theorem Prog.eta (a:Prog):(⟨a.ctx,a.l⟩:Prog)=a:=rfl
def Prog.ok (a:Prog):Prop:=inK .i64 a.ctx=true/\RowsIn (kN 9 220090000) a.l
def lH:List CK:=[.int .i64,.sl (kN 9 220090000) 39]
def oL:List C:=[.int .i8 (.lit 0),.int .i8 (.lit 0),.int .i8 (.lit 0),.int .i8 (.lit 0),.bool (.tt false),.int .i8 (.lit 0),.int .i8 (.lit 0),.int .i64 (.lit 0),.int .i64 (.lit 0)]
theorem kP:Tryz.prog.eqGuardType Tryz.prog.depth 39=false:=by kernel_rfl
theorem xN:Tryz.prog.cellsOf 39=9:=by kernel_rfl
theorem xO:Tryz.prog.cellsOf 37=1:=by kernel_rfl
theorem abo:Tryz.prog.cellsOf 4=1:=by kernel_rfl
theorem abA:Tryz.prog.cellsOf 3=1:=by kernel_rfl
theorem api (vs:List Value) (hv:aI vs oL):Tryz.prog.keyLits 6 39 vs=some (bD vs):=by
 obtain⟨x0,_,rfl,g0,hv⟩:=am hv
 obtain⟨x1,_,rfl,g1,hv⟩:=am hv
 obtain⟨x2,_,rfl,g2,hv⟩:=am hv
 obtain⟨x3,_,rfl,g3,hv⟩:=am hv
 obtain⟨x4,_,rfl,hv⟩:=cu hv
 obtain⟨x5,_,rfl,g5,hv⟩:=am hv
 obtain⟨x6,_,rfl,g6,hv⟩:=am hv
 obtain⟨x7,_,rfl,g7,hv⟩:=am hv
 obtain⟨x8,_,rfl,g8,hv⟩:=am hv
 obtain rfl:=bg hv
 simp[Program.keyLits,Tryz.underlying39,Tryz.underlying37,Tryz.underlying4,Tryz.underlying3,xN,xO,abo,abA,zX,bD,g0,g1,g2,g3,g5,g6,g7,g8]
theorem apD (vs:List Value) (hv:aI vs oL):(Value.agg vs.toArray).formed Tryz.prog 39=true:=by
 obtain⟨x0,_,rfl,g0,hv⟩:=am hv
 obtain⟨x1,_,rfl,g1,hv⟩:=am hv
 obtain⟨x2,_,rfl,g2,hv⟩:=am hv
 obtain⟨x3,_,rfl,g3,hv⟩:=am hv
 obtain⟨x4,_,rfl,hv⟩:=cu hv
 obtain⟨x5,_,rfl,g5,hv⟩:=am hv
 obtain⟨x6,_,rfl,g6,hv⟩:=am hv
 obtain⟨x7,_,rfl,g7,hv⟩:=am hv
 obtain⟨x8,_,rfl,g8,hv⟩:=am hv
 obtain rfl:=bg hv
 kernel_rfl
theorem pC (vs us:List Value) (hv:aI vs oL) (hu:aI us oL) (w:World):(Op.equal 39 (.agg vs.toArray) (.agg us.toArray)).run Tryz.prog w=.ok (eqVs vs us) w:=
 eQ (by kernel_rfl) apD 6 api vs us hv hu w
def tys_LiB:List (Nat×TI):=[(3,⟨false,1,[.int .i64 (.lit 0)],[],none,some .i64,false,false,none,8,false,none,false,0⟩),
 (4,⟨false,1,[.bool (.tt false)],[],none,none,false,true,none,1,false,none,false,0⟩),
 (37,⟨false,1,[.int .i8 (.lit 0)],[],none,some .i8,false,false,none,1,false,none,false,0⟩),
 (39,⟨true,9,(zN 9 220090000),[(0,37),(1,37),(2,37),(3,37),(4,4),(5,37),(6,37),(7,3),(8,3)],none,none,true,false,none,24,false,none,false,0⟩)]
theorem acA:(tys_LiB.all fun p=>ckTI Tryz.prog p.1 p.2)=true:=by kernel_rfl
theorem th:(tys_LiB.all fun p=>!p.2.eqok||((Nat.beq p.1 39&&aY p.2.zero oL)))=true:=by kernel_rfl
theorem acg:(tys_LiB.all fun p=>!p.2.keyok)=true:=by kernel_rfl
theorem dy:∀t i,(t,i)∈tys_LiB->TIok Tryz.prog t i:=by
 intro t i h
 refine bC (cz (f:=ckTI Tryz.prog) acA h) (fun he=> ?_) (fun he=> ?_) (fun he=> ?_)
 ·have h1:=thm7.1 th (t,i) h
  simp only[he,Bool.not_true,Bool.false_or,Bool.or_eq_true,thm0] at h1
  have hs:=h1.2
  obtain rfl:=thm1 h1.1
  exact fun vs us hv hu=>pC vs us (au hs hv) (au hs hu)
 ·have h1:=thm7.1 th (t,i) h
  simp only[he,Bool.not_true,Bool.false_or,Bool.or_eq_true,thm0] at h1
  have hs:=h1.2
  obtain rfl:=thm1 h1.1
  exact kP
 ·have h1:=thm7.1 acg (t,i) h
  simp[he] at h1
def ng (key:Nat):Sm:=⟨35,key,[.one (.int .i64),.one (.int .i64),.one (.int .i64)],[.one .bool],false⟩
def mH (n:Int) (a:Int) (b:Int):List Dt:=[.z (b2i ((decide (a<=n)&&decide (n<=b))))]
def eJ:List Dt->List Dt
 | [.z x0,.z x1,.z x2]=>mH x0 x1 x2
 | _=>[]
def sT_iwi:Tr:=
(.br (.lt (.var 0) (.var 1))
(.leaf (.consb (.tt false) .nil))
(.leaf (.consb (.not (.lt (.var 2) (.var 0))) .nil)))
def ajM:Spec:={F:=fun k=>match k with | _=>fun _=>[],pre:=fun k=>match k with | _=>fun _=>True}
theorem aoB:aq tys_LiB [] [] [] [] 200 Tryz.f35 [.one (.int .i64),.one (.int .i64),.one (.int .i64)] [.one .bool] false [.int .i64,.int .i64,.int .i64] sT_iwi:=⟨by kernel_rfl,by kernel_rfl,by kernel_rfl⟩
set_option linter.defProp false in
def aW:=And.intro Ins.eta (Prog.eta)
theorem aog (n:Int) (hn:inK .i64 n=true) (a:Int) (ha:inK .i64 a=true) (b:Int) (hb:inK .i64 b=true) (U:Env) (g:ab U 0 [.int .i64,.int .i64,.int .i64]=[.z n,.z a,.z b]):sT_iwi.asks ajM (fun U e=>e.D U=eJ [.z n,.z a,.z b]) U fun _ _=>False:=by
 simp only[ab,varD,thm5,Dt.z.injEq,Dt.l.injEq,b2i_eq_iff,Nat.reduceAdd,and_true] at g
 simp only[sT_iwi,ajM,eJ,mH,Tr.asks,ah,okDs,okD,eqs,E.I,E.B,E.L,E.R,E.D,E.vs,E.gs,E.ins,E.sv,E.tn,E.iv,E.zs,E.zr,E.sg,E.tg,E.rg,E.rgs,E.pv,Nat.reduceSub,dI,dB,dL,varD,ab,S1,Nat.reduceAdd,-eq_self,aW,ae,g]
 constructor<;>intro c0
 ·(refine zb ?_; rw[aP]; simp at *; omega)
 ·(refine zb ?_; rw[aP]; simp at *; omega)
theorem uq {sp:Spec} {key:Nat} (hF:sp.F key=eJ) (hP:sp.pre key=fun _=>True:=by rfl):SmOk Tryz.prog sp (ng key):=
 av (s:=ng key) hF hP (by kernel_rfl) dy (sm0) Tryz.func35 fn0 aoB (.inl rfl) (fun x0 gx0 x1 gx1 x2 gx2 hp U g=>aog x0 gx0 x1 gx1 x2 gx2 U g)
def zf (key:Nat):Sm:=⟨66,key,[.one (.int .i8),.one (.int .i8),.one (.int .i8)],[.one .bool],false⟩
def yz (n:Int) (a:Int) (b:Int):List Dt:=[.z (b2i ((decide (a<=n)&&decide (n<=b))))]
def nL:List Dt->List Dt
 | [.z x0,.z x1,.z x2]=>yz x0 x1 x2
 | _=>[]
def sT_iwb:Tr:=
(.br (.lt (.var 0) (.var 1))
(.leaf (.consb (.tt false) .nil))
(.leaf (.consb (.not (.lt (.var 2) (.var 0))) .nil)))
def ajN:Spec:={F:=fun k=>match k with | _=>fun _=>[],pre:=fun k=>match k with | _=>fun _=>True}
theorem aoC:aq tys_LiB [] [] [] [] 200 Tryz.f66 [.one (.int .i8),.one (.int .i8),.one (.int .i8)] [.one .bool] false [.int .i8,.int .i8,.int .i8] sT_iwb:=⟨by kernel_rfl,by kernel_rfl,by kernel_rfl⟩
theorem aoh (n:Int) (hn:inK .i8 n=true) (a:Int) (ha:inK .i8 a=true) (b:Int) (hb:inK .i8 b=true) (U:Env) (g:ab U 0 [.int .i8,.int .i8,.int .i8]=[.z n,.z a,.z b]):sT_iwb.asks ajN (fun U e=>e.D U=nL [.z n,.z a,.z b]) U fun _ _=>False:=by
 simp only[ab,varD,thm5,Dt.z.injEq,Dt.l.injEq,b2i_eq_iff,Nat.reduceAdd,and_true] at g
 simp only[sT_iwb,ajN,nL,yz,Tr.asks,ah,okDs,okD,eqs,E.I,E.B,E.L,E.R,E.D,E.vs,E.gs,E.ins,E.sv,E.tn,E.iv,E.zs,E.zr,E.sg,E.tg,E.rg,E.rgs,E.pv,Nat.reduceSub,dI,dB,dL,varD,ab,S1,Nat.reduceAdd,-eq_self,aW,ae,g]
 constructor<;>intro c0
 ·(refine zb ?_; rw[aP]; simp at *; omega)
 ·(refine zb ?_; rw[aP]; simp at *; omega)
theorem ajT {sp:Spec} {key:Nat} (hF:sp.F key=nL) (hP:sp.pre key=fun _=>True:=by rfl):SmOk Tryz.prog sp (zf key):=
 av (s:=zf key) hF hP (by kernel_rfl) dy (sm0) Tryz.func66 fn0 aoC (.inl rfl) (fun x0 gx0 x1 gx1 x2 gx2 hp U g=>aoh x0 gx0 x1 gx1 x2 gx2 U g)
def aeH (key:Nat):Sm:=⟨126,key,[.one (.int .i8)],[.one .bool],false⟩
def adG (n:Int):List Dt:=[.z (b2i (bP n))]
def uC:List Dt->List Dt
 | [.z x0]=>adG x0
 | _=>[]
def sT_isz:Tr:=
(.br (.eq (.var 0) (.lit 1))
(.leaf (.consb (.tt true) .nil))
(.br (.eq (.var 0) (.lit 2))
(.leaf (.consb (.tt true) .nil))
(.br (.eq (.var 0) (.lit 4))
(.leaf (.consb (.tt true) .nil))
(.leaf (.consb (.eq (.var 0) (.lit 8)) .nil)))))
def ajO:Spec:={F:=fun k=>match k with | _=>fun _=>[],pre:=fun k=>match k with | _=>fun _=>True}
theorem aoD:aq tys_LiB [] [] [] [] 200 Tryz.f126 [.one (.int .i8)] [.one .bool] false [.int .i8] sT_isz:=⟨by kernel_rfl,by kernel_rfl,by kernel_rfl⟩
theorem aoi (n:Int) (hn:inK .i8 n=true) (U:Env) (g:ab U 0 [.int .i8]=[.z n]):sT_isz.asks ajO (fun U e=>e.D U=uC [.z n]) U fun _ _=>False:=by
 simp only[ab,varD,thm5,Dt.z.injEq,Dt.l.injEq,b2i_eq_iff,Nat.reduceAdd,and_true] at g
 simp only[sT_isz,ajO,uC,adG,Tr.asks,ah,okDs,okD,eqs,E.I,E.B,E.L,E.R,E.D,E.vs,E.gs,E.ins,E.sv,E.tn,E.iv,E.zs,E.zr,E.sg,E.tg,E.rg,E.rgs,E.pv,Nat.reduceSub,dI,dB,dL,varD,ab,S1,Nat.reduceAdd,-eq_self,aW,ae,g]
 constructor<;>intro c0
 ·(refine zb ?_; unfold bP; rw[aP]; simp at *; omega)
 constructor<;>intro c1
 ·(refine zb ?_; unfold bP; rw[aP]; simp at *; omega)
 constructor<;>intro c2
 ·(refine zb ?_; unfold bP; rw[aP]; simp at *; omega)
 ·(refine zb ?_; unfold bP; rw[aP]; simp at *; omega)
theorem aoT {sp:Spec} {key:Nat} (hF:sp.F key=uC) (hP:sp.pre key=fun _=>True:=by rfl):SmOk Tryz.prog sp (aeH key):=
 av (s:=aeH key) hF hP (by kernel_rfl) dy (sm0) Tryz.func126 fn0 aoD (.inl rfl) (fun x0 gx0 hp U g=>aoi x0 gx0 U g)
def rz (key:Nat):Sm:=⟨67,key,[.agg kIns],[.agg kIns,.one .bool],true⟩
def qK (x:Ins):List Dt:=[.z (((bK x).1).k),.z (((bK x).1).op),.z (((bK x).1).w),.z (((bK x).1).sz),.z (b2i (((bK x).1).br)),.z (((bK x).1).d),.z (((bK x).1).s),.z (((bK x).1).off),.z (((bK x).1).imm),.z (b2i ((bK x).2))]
def jA:List Dt->List Dt
 | [.z x0,.z x1,.z x2,.z x3,.z x4,.z x5,.z x6,.z x7,.z x8]=>qK ⟨x0,x1,x2,x3,(x4==1),x5,x6,x7,x8⟩
 | _=>[]
def sT_ibare:Tr:=
(.br (.eq (.var 0) (.lit 0))
(.call 1 [.bool] (.cons (.var 1) (.cons (.lit 0) (.cons (.lit 12) .nil))) 9
(.br (.bvar 9)
(.br (.eq (.var 2) (.lit 32))
(.br (.lt (.var 5) (.lit 10))
(.br (.eq (.var 1) (.lit 8))
(.br (.bvar 4)
(.leaf (.cons (.var 0) (.cons (.lit 0) (.cons (.lit 0) (.cons (.var 3) (.consb (.tt false) (.cons (.lit 0) (.cons (.lit 0) (.vs 7 2 (.consb (.tt false) .nil))))))))))
(.leaf (.cons (.var 0) (.cons (.lit 0) (.cons (.lit 0) (.cons (.var 3) (.consb (.tt false) (.cons (.lit 0) (.vs 6 2 (.cons (.lit 0) (.consb (.eq (.var 8) (.lit 0)) .nil)))))))))))
(.br (.bvar 4)
(.leaf (.cons (.var 0) (.cons (.lit 0) (.cons (.lit 0) (.cons (.var 3) (.consb (.tt false) (.cons (.lit 0) (.cons (.lit 0) (.vs 7 2 (.consb (.tt true) .nil))))))))))
(.leaf (.cons (.var 0) (.cons (.lit 0) (.cons (.lit 0) (.cons (.var 3) (.consb (.tt false) (.cons (.lit 0) (.vs 6 2 (.cons (.lit 0) (.consb (.tt true) .nil))))))))))))
(.br (.bvar 4)
(.leaf (.cons (.var 0) (.cons (.lit 0) (.cons (.lit 0) (.cons (.var 3) (.consb (.tt false) (.cons (.lit 0) (.cons (.lit 0) (.vs 7 2 (.consb (.tt false) .nil))))))))))
(.leaf (.cons (.var 0) (.cons (.lit 0) (.cons (.lit 0) (.cons (.var 3) (.consb (.tt false) (.cons (.lit 0) (.vs 6 2 (.cons (.lit 0) (.consb (.tt false) .nil))))))))))))
(.br (.eq (.var 2) (.lit 64))
(.br (.lt (.var 5) (.lit 10))
(.br (.eq (.var 1) (.lit 8))
(.br (.bvar 4)
(.leaf (.cons (.var 0) (.cons (.lit 0) (.cons (.lit 0) (.cons (.var 3) (.consb (.tt false) (.cons (.lit 0) (.cons (.lit 0) (.vs 7 2 (.consb (.tt false) .nil))))))))))
(.leaf (.cons (.var 0) (.cons (.lit 0) (.cons (.lit 0) (.cons (.var 3) (.consb (.tt false) (.cons (.lit 0) (.vs 6 2 (.cons (.lit 0) (.consb (.eq (.var 8) (.lit 0)) .nil)))))))))))
(.br (.bvar 4)
(.leaf (.cons (.var 0) (.cons (.lit 0) (.cons (.lit 0) (.cons (.var 3) (.consb (.tt false) (.cons (.lit 0) (.cons (.lit 0) (.vs 7 2 (.consb (.tt true) .nil))))))))))
(.leaf (.cons (.var 0) (.cons (.lit 0) (.cons (.lit 0) (.cons (.var 3) (.consb (.tt false) (.cons (.lit 0) (.vs 6 2 (.cons (.lit 0) (.consb (.tt true) .nil))))))))))))
(.br (.bvar 4)
(.leaf (.cons (.var 0) (.cons (.lit 0) (.cons (.lit 0) (.cons (.var 3) (.consb (.tt false) (.cons (.lit 0) (.cons (.lit 0) (.vs 7 2 (.consb (.tt false) .nil))))))))))
(.leaf (.cons (.var 0) (.cons (.lit 0) (.cons (.lit 0) (.cons (.var 3) (.consb (.tt false) (.cons (.lit 0) (.vs 6 2 (.cons (.lit 0) (.consb (.tt false) .nil))))))))))))
(.br (.bvar 4)
(.leaf (.cons (.var 0) (.cons (.lit 0) (.cons (.lit 0) (.cons (.var 3) (.consb (.tt false) (.cons (.lit 0) (.cons (.lit 0) (.vs 7 2 (.consb (.tt false) .nil))))))))))
(.leaf (.cons (.var 0) (.cons (.lit 0) (.cons (.lit 0) (.cons (.var 3) (.consb (.tt false) (.cons (.lit 0) (.vs 6 2 (.cons (.lit 0) (.consb (.tt false) .nil)))))))))))))
(.br (.bvar 4)
(.leaf (.cons (.var 0) (.cons (.lit 0) (.cons (.lit 0) (.cons (.var 3) (.consb (.tt false) (.cons (.lit 0) (.cons (.lit 0) (.vs 7 2 (.consb (.tt false) .nil))))))))))
(.leaf (.cons (.var 0) (.cons (.lit 0) (.cons (.lit 0) (.cons (.var 3) (.consb (.tt false) (.cons (.lit 0) (.vs 6 2 (.cons (.lit 0) (.consb (.tt false) .nil)))))))))))))
(.br (.eq (.var 0) (.lit 1))
(.call 2 [.bool] (.cons (.var 3) .nil) 9
(.br (.bvar 9)
(.leaf (.vs 0 3 (.cons (.lit 0) (.consb (.bvar 4) (.zs [0,0,0] (.cons (.var 8) (.consb (.lt (.var 5) (.lit 10)) .nil)))))))
(.leaf (.vs 0 3 (.cons (.lit 0) (.consb (.bvar 4) (.zs [0,0,0] (.cons (.var 8) (.consb (.tt false) .nil)))))))))
(.br (.eq (.var 0) (.lit 2))
(.call 2 [.bool] (.cons (.var 3) .nil) 9
(.leaf (.vs 0 3 (.cons (.lit 0) (.consb (.bvar 4) (.zs [0,0,0] (.cons (.var 8) (.consb (.bvar 9) .nil))))))))
(.br (.eq (.var 0) (.lit 3))
(.call 1 [.bool] (.cons (.var 1) (.cons (.lit 0) (.cons (.lit 10) .nil))) 9
(.br (.bvar 4)
(.leaf (.cons (.var 0) (.cons (.lit 0) (.vs 2 2 (.consb (.tt false) (.zs [0,0,0] (.cons (.var 8) (.consb (.bvar 9) .nil))))))))
(.leaf (.cons (.var 0) (.cons (.lit 0) (.vs 2 2 (.consb (.tt false) (.cons (.lit 0) (.cons (.var 6) (.cons (.lit 0) (.cons (.lit 0) (.consb (.bvar 9) .nil))))))))))))
(.br (.eq (.var 0) (.lit 4))
(.leaf (.vs 0 4 (.consb (.bvar 4) (.vs 5 2 (.cons (.lit 0) (.cons (.var 8) (.consb (.tt true) .nil)))))))
(.br (.eq (.var 0) (.lit 5))
(.call 0 [.bool] (.cons (.var 8) (.cons (.lit 0) (.cons (.lit 15) .nil))) 9
(.leaf (.vs 0 4 (.consb (.bvar 4) (.vs 5 3 (.cons (.lit 0) (.consb (.bvar 9) .nil)))))))
(.br (.eq (.var 0) (.lit 6))
(.leaf (.vs 0 4 (.consb (.bvar 4) (.vs 5 4 (.consb (.tt true) .nil)))))
(.leaf (.vs 0 4 (.consb (.bvar 4) (.vs 5 4 (.consb (.tt false) .nil))))))))))))
def yZ:Spec:={F:=fun k=>match k with | 0=>eJ | 1=>nL | 2=>uC | _=>fun _=>[],pre:=fun k=>match k with | _=>fun _=>True}
theorem aie:aq tys_LiB [ng 0,zf 1,aeH 2] [(125,Tryz.f125,[],[])] [] [] 200 Tryz.f67 [.agg kIns] [.agg kIns,.one .bool] true [.int .i8,.int .i8,.int .i8,.int .i8,.bool,.int .i8,.int .i8,.int .i64,.int .i64] sT_ibare:=⟨by kernel_rfl,by kernel_rfl,by kernel_rfl⟩
theorem ahK (x:Ins) (hx:Ins.ok x) (U:Env) (g:ab U 0 [.int .i8,.int .i8,.int .i8,.int .i8,.bool,.int .i8,.int .i8,.int .i64,.int .i64]=[.z x.k,.z x.op,.z x.w,.z x.sz,.z (b2i x.br),.z x.d,.z x.s,.z x.off,.z x.imm]):sT_ibare.asks yZ (fun U e=>e.D U=jA [.z x.k,.z x.op,.z x.w,.z x.sz,.z (b2i x.br),.z x.d,.z x.s,.z x.off,.z x.imm]) U fun _ _=>False:=by
 simp only[ab,varD,thm5,Dt.z.injEq,Dt.l.injEq,b2i_eq_iff,Nat.reduceAdd,and_true] at g
 simp only[sT_ibare,yZ,eJ,nL,uC,mH,yz,adG,jA,qK,Tr.asks,ah,okDs,okD,eqs,E.I,E.B,E.L,E.R,E.D,E.vs,E.gs,E.ins,E.sv,E.tn,E.iv,E.zs,E.zr,E.sg,E.tg,E.rg,E.rgs,E.pv,Nat.reduceSub,dI,dB,dL,varD,ab,S1,Nat.reduceAdd,-eq_self,aW,ae,g]
 constructor<;>intro c0
 intro e; (try simp only[e,aW,ae,-eq_self]); clear e
 constructor<;>intro c1
 constructor<;>intro c2
 constructor<;>intro c3
 constructor<;>intro c4
 constructor<;>intro c5
 ·(unfold bK immz; simp_all<;>omega)
 ·(unfold bK immz; simp_all<;>omega)
 constructor<;>intro c6
 ·(unfold bK immz; simp_all<;>omega)
 ·(unfold bK immz; simp_all<;>omega)
 constructor<;>intro c7
 ·(unfold bK immz; simp_all<;>omega)
 ·(unfold bK immz; simp_all<;>omega)
 constructor<;>intro c8
 constructor<;>intro c9
 constructor<;>intro c10
 constructor<;>intro c11
 ·(unfold bK immz; simp_all<;>omega)
 ·(unfold bK immz; simp_all<;>omega)
 constructor<;>intro c12
 ·(unfold bK immz; simp_all<;>omega)
 ·(unfold bK immz; simp_all<;>omega)
 constructor<;>intro c13
 ·(unfold bK immz; simp_all<;>omega)
 ·(unfold bK immz; simp_all<;>omega)
 constructor<;>intro c14
 ·(unfold bK immz; simp_all<;>omega)
 ·(unfold bK immz; simp_all<;>omega)
 constructor<;>intro c15
 ·(unfold bK immz; simp_all<;>omega)
 ·(unfold bK immz; simp_all<;>omega)
 constructor<;>intro c16
 intro e; (try simp only[e,aW,ae,-eq_self]); clear e
 constructor<;>intro c17
 ·(unfold bK immz; simp_all<;>omega)
 ·(unfold bK immz; simp_all<;>omega)
 constructor<;>intro c18
 intro e; (try simp only[e,aW,ae,-eq_self]); clear e
 ·(unfold bK immz; simp_all<;>omega)
 constructor<;>intro c19
 intro e; (try simp only[e,aW,ae,-eq_self]); clear e
 constructor<;>intro c20
 ·(unfold bK immz; simp_all<;>omega)
 ·(unfold bK immz; simp_all<;>omega)
 constructor<;>intro c21
 ·(unfold bK immz; simp_all<;>omega)
 constructor<;>intro c22
 intro e; (try simp only[e,aW,ae,-eq_self]); clear e
 ·(unfold bK immz; simp_all<;>omega)
 constructor<;>intro c23
 ·(unfold bK immz; simp_all<;>omega)
 ·(unfold bK immz; simp_all<;>omega)
theorem aiz {sp:Spec} {key:Nat} (hF:sp.F key=jA) (hP:sp.pre key=fun _=>True:=by rfl):SmOk Tryz.prog sp (rz key):=
 av (s:=rz key) hF hP (by kernel_rfl) dy (smc (uq rfl) (smc (ajT rfl) (smc (aoT rfl) sm0))) Tryz.func67 (fnc Tryz.func125 fn0) aie (.inl rfl) (fun x0 gx0 x1 gx1 x2 gx2 x3 gx3 x4 x5 gx5 x6 gx6 x7 gx7 x8 gx8 hp U g=>ahK ⟨x0,x1,x2,x3,x4,x5,x6,x7,x8⟩ ⟨gx0,gx1,gx2,gx3,gx5,gx6,gx7,gx8⟩ U g)
def rk (key:Nat):Sm:=⟨26,key,[.agg kIns],[.one .bool],false⟩
def qC (x:Ins):List Dt:=[.z (b2i (imay x))]
def iC:List Dt->List Dt
 | [.z x0,.z x1,.z x2,.z x3,.z x4,.z x5,.z x6,.z x7,.z x8]=>qC ⟨x0,x1,x2,x3,(x4==1),x5,x6,x7,x8⟩
 | _=>[]
def sT_nmay:Tr:=
(.call 1 [.bool] (.cons (.var 5) (.cons (.lit 0) (.cons (.lit 10) .nil))) 9
(.br (.bvar 9)
(.call 1 [.bool] (.cons (.var 6) (.cons (.lit 0) (.cons (.lit 10) .nil))) 10
(.br (.bvar 10)
(.call 0 [.bool] (.cons (.var 7) (.cons (.lit (-32768)) (.cons (.lit 32767) .nil))) 11
(.br (.bvar 11)
(.call 0 [.bool] (.cons (.var 8) (.cons (.lit (-2147483648)) (.cons (.lit 2147483647) .nil))) 12
(.br (.bvar 12)
(.call 2 (kIns++[.bool]) (.vs 0 4 (.consb (.bvar 4) (.vs 5 4 .nil))) 13
(.br (.bvar 22)
(.leaf (.consb (.and (.eq (.var 13) (.var 0)) (.and (.eq (.var 14) (.lit 0)) (.and (.eq (.var 15) (.lit 0)) (.and (.eq (.var 16) (.lit 0)) (.and (.not (.bvar 17)) (.and (.eq (.var 18) (.lit 0)) (.and (.eq (.var 19) (.lit 0)) (.and (.eq (.var 20) (.lit 0)) (.and (.eq (.var 21) (.lit 0)) (.tt true)))))))))) .nil))
(.leaf (.consb (.tt false) .nil))))
(.leaf (.consb (.tt false) .nil))))
(.leaf (.consb (.tt false) .nil))))
(.leaf (.consb (.tt false) .nil))))
(.leaf (.consb (.tt false) .nil))))
def aeh:Spec:={F:=fun k=>match k with | 0=>eJ | 1=>nL | 2=>jA | _=>fun _=>[],pre:=fun k=>match k with | _=>fun _=>True}
theorem alU:aq tys_LiB [ng 0,zf 1,rz 2] [] [] [] 200 Tryz.f26 [.agg kIns] [.one .bool] false [.int .i8,.int .i8,.int .i8,.int .i8,.bool,.int .i8,.int .i8,.int .i64,.int .i64] sT_nmay:=⟨by kernel_rfl,by kernel_rfl,by kernel_rfl⟩
theorem alc (x:Ins) (hx:Ins.ok x) (U:Env) (g:ab U 0 [.int .i8,.int .i8,.int .i8,.int .i8,.bool,.int .i8,.int .i8,.int .i64,.int .i64]=[.z x.k,.z x.op,.z x.w,.z x.sz,.z (b2i x.br),.z x.d,.z x.s,.z x.off,.z x.imm]):sT_nmay.asks aeh (fun U e=>e.D U=iC [.z x.k,.z x.op,.z x.w,.z x.sz,.z (b2i x.br),.z x.d,.z x.s,.z x.off,.z x.imm]) U fun _ _=>False:=by
 simp only[ab,varD,thm5,Dt.z.injEq,Dt.l.injEq,b2i_eq_iff,Nat.reduceAdd,and_true] at g
 simp only[sT_nmay,aeh,kIns,eJ,nL,jA,mH,yz,qK,iC,qC,Tr.asks,ah,okDs,okD,eqs,E.I,E.B,E.L,E.R,E.D,E.vs,E.gs,E.ins,E.sv,E.tn,E.iv,E.zs,E.zr,E.sg,E.tg,E.rg,E.rgs,E.pv,Nat.reduceSub,dI,dB,dL,varD,ab,S1,Nat.reduceAdd,-eq_self,aW,ae,g]
 intro e; (try simp only[e,aW,ae,-eq_self]); clear e
 constructor<;>intro c0
 intro e; (try simp only[e,aW,ae,-eq_self]); clear e
 constructor<;>intro c1
 intro e; (try simp only[e,aW,ae,-eq_self]); clear e
 constructor<;>intro c2
 intro e; (try simp only[e,aW,ae,-eq_self]); clear e
 constructor<;>intro c3
 intro e; (try simp only[e,aW,ae,-eq_self]); clear e
 constructor<;>intro c4
 ·(unfold imay lx oq; simp_all<;>omega)
 ·(unfold imay lx oq; simp_all<;>omega)
 ·(unfold imay lx oq; simp_all<;>omega)
 ·(unfold imay lx oq; simp_all<;>omega)
 ·(unfold imay lx oq; simp_all<;>omega)
 ·(unfold imay lx oq; simp_all<;>omega)
theorem aeX {sp:Spec} {key:Nat} (hF:sp.F key=iC) (hP:sp.pre key=fun _=>True:=by rfl):SmOk Tryz.prog sp (rk key):=
 av (s:=rk key) hF hP (by kernel_rfl) dy (smc (uq rfl) (smc (ajT rfl) (smc (aiz rfl) sm0))) Tryz.func26 fn0 alU (.inl rfl) (fun x0 gx0 x1 gx1 x2 gx2 x3 gx3 x4 x5 gx5 x6 gx6 x7 gx7 x8 gx8 hp U g=>alc ⟨x0,x1,x2,x3,x4,x5,x6,x7,x8⟩ ⟨gx0,gx1,gx2,gx3,gx5,gx6,gx7,gx8⟩ U g)
def rv (key:Nat):Sm:=⟨36,key,[.one (.int .i64),.agg kIns],[.one (.int .i64),.one .bool],true⟩
def wt (i:Int) (x:Ins):List Dt:=[.z ((itgt i x).1),.z (b2i ((itgt i x).2))]
def fV:List Dt->List Dt
 | [.z x0,.z x1,.z x2,.z x3,.z x4,.z x5,.z x6,.z x7,.z x8,.z x9]=>wt x0 ⟨x1,x2,x3,x4,(x5==1),x6,x7,x8,x9⟩
 | _=>[]
def sT_itgt:Tr:=
(.br (.eq (.var 1) (.lit 3))
(.call 0 [.bool] (.cons (.var 0) (.cons (.lit (-1099511627776)) (.cons (.lit 1099511627776) .nil))) 10
(.br (.bvar 10)
(.call 0 [.bool] (.cons (.var 8) (.cons (.lit (-1099511627776)) (.cons (.lit 1099511627776) .nil))) 11
(.br (.bvar 11)
(.leaf (.cons (.bin .add .i64 (.bin .add .i64 (.var 0) (.lit 1)) (.var 8)) (.consb (.tt true) .nil)))
(.leaf (.cons (.lit 0) (.consb (.tt false) .nil)))))
(.leaf (.cons (.lit 0) (.consb (.tt false) .nil)))))
(.br (.eq (.var 1) (.lit 4))
(.call 0 [.bool] (.cons (.var 0) (.cons (.lit (-1099511627776)) (.cons (.lit 1099511627776) .nil))) 10
(.br (.bvar 10)
(.call 0 [.bool] (.cons (.var 8) (.cons (.lit (-1099511627776)) (.cons (.lit 1099511627776) .nil))) 11
(.br (.bvar 11)
(.leaf (.cons (.bin .add .i64 (.bin .add .i64 (.var 0) (.lit 1)) (.var 8)) (.consb (.tt true) .nil)))
(.leaf (.cons (.lit 0) (.consb (.tt false) .nil)))))
(.leaf (.cons (.lit 0) (.consb (.tt false) .nil)))))
(.leaf (.cons (.lit 0) (.consb (.tt false) .nil)))))
def aev:Spec:={F:=fun k=>match k with | 0=>eJ | _=>fun _=>[],pre:=fun k=>match k with | _=>fun _=>True}
theorem al8:aq tys_LiB [ng 0] [] [] [] 200 Tryz.f36 [.one (.int .i64),.agg kIns] [.one (.int .i64),.one .bool] true [.int .i64,.int .i8,.int .i8,.int .i8,.int .i8,.bool,.int .i8,.int .i8,.int .i64,.int .i64] sT_itgt:=⟨by kernel_rfl,by kernel_rfl,by kernel_rfl⟩
theorem als (i:Int) (hi:inK .i64 i=true) (x:Ins) (hx:Ins.ok x) (U:Env) (g:ab U 0 [.int .i64,.int .i8,.int .i8,.int .i8,.int .i8,.bool,.int .i8,.int .i8,.int .i64,.int .i64]=[.z i,.z x.k,.z x.op,.z x.w,.z x.sz,.z (b2i x.br),.z x.d,.z x.s,.z x.off,.z x.imm]):sT_itgt.asks aev (fun U e=>e.D U=fV [.z i,.z x.k,.z x.op,.z x.w,.z x.sz,.z (b2i x.br),.z x.d,.z x.s,.z x.off,.z x.imm]) U fun _ _=>False:=by
 simp only[ab,varD,thm5,Dt.z.injEq,Dt.l.injEq,b2i_eq_iff,Nat.reduceAdd,and_true] at g
 simp only[sT_itgt,aev,eJ,mH,fV,wt,Tr.asks,ah,okDs,okD,eqs,E.I,E.B,E.L,E.R,E.D,E.vs,E.gs,E.ins,E.sv,E.tn,E.iv,E.zs,E.zr,E.sg,E.tg,E.rg,E.rgs,E.pv,Nat.reduceSub,dI,dB,dL,varD,ab,S1,Nat.reduceAdd,-eq_self,aW,ae,g]
 constructor<;>intro c0
 intro e; (try simp only[e,aW,ae,-eq_self]); clear e
 constructor<;>intro c1
 intro e; (try simp only[e,aW,ae,-eq_self]); clear e
 constructor<;>intro c2
 ·rw[aj6 (.inl (eqI c0)) c1 c2]; try rfl
 ·rw[aj7 c2]; try rfl
 ·rw[aj8 c1]; try rfl
 constructor<;>intro c3
 intro e; (try simp only[e,aW,ae,-eq_self]); clear e
 constructor<;>intro c4
 intro e; (try simp only[e,aW,ae,-eq_self]); clear e
 constructor<;>intro c5
 ·rw[aj6 (.inr (eqI c3)) c4 c5]; try rfl
 ·rw[aj7 c5]; try rfl
 ·rw[aj8 c4]; try rfl
 ·rw[apn c0 c3]; try rfl
theorem ae4 {sp:Spec} {key:Nat} (hF:sp.F key=fV) (hP:sp.pre key=fun _=>True:=by rfl):SmOk Tryz.prog sp (rv key):=
 av (s:=rv key) hF hP (by kernel_rfl) dy (smc (uq rfl) sm0) Tryz.func36 fn0 al8 (.inl rfl) (fun x0 gx0 x1 gx1 x2 gx2 x3 gx3 x4 gx4 x5 x6 gx6 x7 gx7 x8 gx8 x9 gx9 hp U g=>als x0 gx0 ⟨x1,x2,x3,x4,x5,x6,x7,x8,x9⟩ ⟨gx1,gx2,gx3,gx4,gx6,gx7,gx8,gx9⟩ U g)
def rA (key:Nat):Sm:=⟨41,key,[.one (.int .i64)],[.one (.int .i64)],false⟩
def qL (n:Int):List Dt:=[.z (sd n)]
def jB:List Dt->List Dt
 | [.z x0]=>qL x0
 | _=>[]
def sT_iargs:Tr:=
(.call 0 [.bool] (.cons (.var 0) (.cons (.lit 0) (.cons (.lit 15) .nil))) 1
(.br (.bvar 1)
(.leaf (.cons (.bin .rem .i64 (.var 0) (.lit 6)) .nil))
(.leaf (.cons (.lit 0) .nil))))
def za:Spec:={F:=fun k=>match k with | 0=>eJ | _=>fun _=>[],pre:=fun k=>match k with | _=>fun _=>True}
theorem aif:aq tys_LiB [ng 0] [] [] [] 200 Tryz.f41 [.one (.int .i64)] [.one (.int .i64)] false [.int .i64] sT_iargs:=⟨by kernel_rfl,by kernel_rfl,by kernel_rfl⟩
theorem ahL (n:Int) (hn:inK .i64 n=true) (U:Env) (g:ab U 0 [.int .i64]=[.z n]):sT_iargs.asks za (fun U e=>e.D U=jB [.z n]) U fun _ _=>False:=by
 simp only[ab,varD,thm5,Dt.z.injEq,Dt.l.injEq,b2i_eq_iff,Nat.reduceAdd,and_true] at g
 simp only[sT_iargs,za,eJ,mH,jB,qL,Tr.asks,ah,okDs,okD,eqs,E.I,E.B,E.L,E.R,E.D,E.vs,E.gs,E.ins,E.sv,E.tn,E.iv,E.zs,E.zr,E.sg,E.tg,E.rg,E.rgs,E.pv,Nat.reduceSub,dI,dB,dL,varD,ab,S1,Nat.reduceAdd,-eq_self,aW,ae,g]
 intro e; (try simp only[e,aW,ae,-eq_self]); clear e
 constructor<;>intro c0
 ·rw[anh c0]; try rfl
 ·rw[ani c0]; try rfl
theorem aiA {sp:Spec} {key:Nat} (hF:sp.F key=jB) (hP:sp.pre key=fun _=>True:=by rfl):SmOk Tryz.prog sp (rA key):=
 av (s:=rA key) hF hP (by kernel_rfl) dy (smc (uq rfl) sm0) Tryz.func41 fn0 aif (.inl rfl) (fun x0 gx0 hp U g=>ahL x0 gx0 U g)
end Go.Proofs.YtfkhblmeioiciaaGreatDoor
