import Derived.Test.YtfkhblmeioiciaaGreatDoorLiA
import Derived.Test.YtfkhblmeioiciaaGreatDoorProg
import Derived.Laws.Externs
set_option maxRecDepth 100000
set_option maxHeartbeats 8000000
set_option linter.defProp false
set_option linter.unusedVariables false
set_option linter.unusedSimpArgs false
namespace Go.Proofs.YtfkhblmeioiciaaGreatDoor
open Go.RowKit Go.ChangeShapes Go.WideShapes
theorem Ins.eta (a:Ins):(⟨a.k,a.op,a.w,a.sz,a.br,a.d,a.s,a.off,a.imm⟩:Ins)=a:=rfl
def Ins.ok (a:Ins):Prop:=inK .i8 a.k=true/\inK .i8 a.op=true/\inK .i8 a.w=true/\inK .i8 a.sz=true/\inK .i8 a.d=true/\inK .i8 a.s=true/\inK .i64 a.off=true/\inK .i64 a.imm=true
def kIns:List CK:=[.int .i8,.int .i8,.int .i8,.int .i8,.bool,.int .i8,.int .i8,.int .i64,.int .i64]
theorem Prog.eta (a:Prog):(⟨a.ctx,a.l⟩:Prog)=a:=rfl
def Prog.ok (a:Prog):Prop:=inK .i64 a.ctx=true/\RowsIn (kN 9 220090000) a.l
def lV:List CK:=[.int .i64,.sl (kN 9 220090000) 39]
def oY:List C:=[.int .i8 (.lit 0),.int .i8 (.lit 0),.int .i8 (.lit 0),.int .i8 (.lit 0),.bool (.tt false),.int .i8 (.lit 0),.int .i8 (.lit 0),.int .i64 (.lit 0),.int .i64 (.lit 0)]
theorem lc:Tryz.prog.eqGuardType Tryz.prog.depth 39=false:=by kernel_rfl
theorem yk:Tryz.prog.cellsOf 39=9:=by kernel_rfl
theorem yl:Tryz.prog.cellsOf 37=1:=by kernel_rfl
theorem abF:Tryz.prog.cellsOf 4=1:=by kernel_rfl
theorem abQ:Tryz.prog.cellsOf 3=1:=by kernel_rfl
theorem aqE (vs:List Value) (hv:aG vs oY):Tryz.prog.keyLits 6 39 vs=some (bF vs):=by
 obtain⟨x0,_,rfl,g0,hv⟩:=ak hv
 obtain⟨x1,_,rfl,g1,hv⟩:=ak hv
 obtain⟨x2,_,rfl,g2,hv⟩:=ak hv
 obtain⟨x3,_,rfl,g3,hv⟩:=ak hv
 obtain⟨x4,_,rfl,hv⟩:=cv hv
 obtain⟨x5,_,rfl,g5,hv⟩:=ak hv
 obtain⟨x6,_,rfl,g6,hv⟩:=ak hv
 obtain⟨x7,_,rfl,g7,hv⟩:=ak hv
 obtain⟨x8,_,rfl,g8,hv⟩:=ak hv
 obtain rfl:=bf hv
 simp[Program.keyLits,Tryz.underlying39,Tryz.underlying37,Tryz.underlying4,Tryz.underlying3,yk,yl,abF,abQ,aas,bF,g0,g1,g2,g3,g5,g6,g7,g8]
theorem aqX (vs:List Value) (hv:aG vs oY):(Value.agg vs.toArray).formed Tryz.prog 39=true:=by
 obtain⟨x0,_,rfl,g0,hv⟩:=ak hv
 obtain⟨x1,_,rfl,g1,hv⟩:=ak hv
 obtain⟨x2,_,rfl,g2,hv⟩:=ak hv
 obtain⟨x3,_,rfl,g3,hv⟩:=ak hv
 obtain⟨x4,_,rfl,hv⟩:=cv hv
 obtain⟨x5,_,rfl,g5,hv⟩:=ak hv
 obtain⟨x6,_,rfl,g6,hv⟩:=ak hv
 obtain⟨x7,_,rfl,g7,hv⟩:=ak hv
 obtain⟨x8,_,rfl,g8,hv⟩:=ak hv
 obtain rfl:=bf hv
 kernel_rfl
theorem pV (vs us:List Value) (hv:aG vs oY) (hu:aG us oY) (w:World):(Op.equal 39 (.agg vs.toArray) (.agg us.toArray)).run Tryz.prog w=.ok (eqVs vs us) w:=
 fe (by kernel_rfl) aqX 6 aqE vs us hv hu w
def tys_LiB:List (Nat×TI):=[(3,tiq3),
 (4,tiq4),
 (37,ig),
 (39,aaW)]
theorem acV:(tys_LiB.all fun p=>ckTI Tryz.prog p.1 p.2)=true:=by kernel_rfl
theorem tM:(tys_LiB.all fun p=>!p.2.eqok||((Nat.beq p.1 39&&aX p.2.zero oY)))=true:=by kernel_rfl
theorem acB:(tys_LiB.all fun p=>!p.2.keyok)=true:=by kernel_rfl
theorem dF:∀t i,(t,i)∈tys_LiB->TIok Tryz.prog t i:=by
 intro t i h
 refine bE (cC (f:=ckTI Tryz.prog) acV h) (fun he=> ?_) (fun he=> ?_) (fun he=> ?_)
 ·have h1:=thm7.1 tM (t,i) h
  simp only[he,Bool.not_true,Bool.false_or,bG,thm0] at h1
  have hs:=h1.2
  obtain rfl:=thm1 h1.1
  exact fun vs us hv hu=>pV vs us (ar hs hv) (ar hs hu)
 ·have h1:=thm7.1 tM (t,i) h
  simp only[he,Bool.not_true,Bool.false_or,bG,thm0] at h1
  have hs:=h1.2
  obtain rfl:=thm1 h1.1
  exact lc
 ·have h1:=thm7.1 acB (t,i) h
  simp[he] at h1
def nu (key:Nat):Sm:=⟨35,key,[.one (.int .i64),.one (.int .i64),.one (.int .i64)],[.one .bool],false⟩
def mT (n:Int) (a:Int) (b:Int):List Dt:=[.z (b2i ((decide (a<=n)&&decide (n<=b))))]
def eX:List Dt->List Dt
 | [.z x0,.z x1,.z x2]=>mT x0 x1 x2
 | _=>[]
def sT_iwi:Tr:=
(.br (.lt (.var 0) (.var 1))
(.leaf (.cb (.tt false) .nil))
(.leaf (.cb (.not (.lt (.var 2) (.var 0))) .nil)))
def akr:Spec:={F:=fun k=>match k with | _=>fun _=>[],pre:=fun _ _=>True}
theorem apX:ap tys_LiB [] [] [] [] 200 Tryz.f35 [.one (.int .i64),.one (.int .i64),.one (.int .i64)] [.one .bool] false [.int .i64,.int .i64,.int .i64] sT_iwi:=⟨by kernel_rfl,by kernel_rfl,by kernel_rfl⟩
def aT:=And.intro Ins.eta (Prog.eta)
theorem apC (n:Int) (hn:inK .i64 n=true) (a:Int) (ha:inK .i64 a=true) (b:Int) (hb:inK .i64 b=true) (U:Env) (g:varsD U 0 [.int .i64,.int .i64,.int .i64]=[.z n,.z a,.z b]):sT_iwi.asks akr (fun U e=>e.D U=eX [.z n,.z a,.z b]) U fun _ _=>False:=by
 simp only[varsD,varD,thm5,gS0,Nat.reduceAdd,and_true] at g
 simp only[sT_iwi,akr,eX,mT,simQ,af,S1,Nat.reduceSub,Nat.reduceAdd,-eq_self,aT,ab,g]
 constructor<;>intro c0
 ·(refine zb ?_;rw[aM];simp at *;omega)
 ·(refine zb ?_;rw[aM];simp at *;omega)
theorem xL:Tryz.prog.follows .mixedOrders=true:=by kernel_rfl
theorem uO {sp:Spec} {key:Nat} (hF:sp.F key=eX) (hP:sp.pre key=fun _=>True:=by rfl):SmOk Tryz.prog sp (nu key):=
 au (s:=nu key) hF hP xL dF (sm0) Tryz.func35 fn0 apX (.inl rfl) (fun x0 gx0 x1 gx1 x2 gx2 hp U g=>apC x0 gx0 x1 gx1 x2 gx2 U g)
def zD (key:Nat):Sm:=⟨66,key,[.one (.int .i8),.one (.int .i8),.one (.int .i8)],[.one .bool],false⟩
def yW (n:Int) (a:Int) (b:Int):List Dt:=[.z (b2i ((decide (a<=n)&&decide (n<=b))))]
def nY:List Dt->List Dt
 | [.z x0,.z x1,.z x2]=>yW x0 x1 x2
 | _=>[]
def sT_iwb:Tr:=
(.br (.lt (.var 0) (.var 1))
(.leaf (.cb (.tt false) .nil))
(.leaf (.cb (.not (.lt (.var 2) (.var 0))) .nil)))
def aks:Spec:={F:=fun k=>match k with | _=>fun _=>[],pre:=fun _ _=>True}
theorem apY:ap tys_LiB [] [] [] [] 200 Tryz.f66 [.one (.int .i8),.one (.int .i8),.one (.int .i8)] [.one .bool] false [.int .i8,.int .i8,.int .i8] sT_iwb:=⟨by kernel_rfl,by kernel_rfl,by kernel_rfl⟩
theorem apD (n:Int) (hn:inK .i8 n=true) (a:Int) (ha:inK .i8 a=true) (b:Int) (hb:inK .i8 b=true) (U:Env) (g:varsD U 0 [.int .i8,.int .i8,.int .i8]=[.z n,.z a,.z b]):sT_iwb.asks aks (fun U e=>e.D U=nY [.z n,.z a,.z b]) U fun _ _=>False:=by
 simp only[varsD,varD,thm5,gS0,Nat.reduceAdd,and_true] at g
 simp only[sT_iwb,aks,nY,yW,simQ,af,S1,Nat.reduceSub,Nat.reduceAdd,-eq_self,aT,ab,g]
 constructor<;>intro c0
 ·(refine zb ?_;rw[aM];simp at *;omega)
 ·(refine zb ?_;rw[aM];simp at *;omega)
theorem akx {sp:Spec} {key:Nat} (hF:sp.F key=nY) (hP:sp.pre key=fun _=>True:=by rfl):SmOk Tryz.prog sp (zD key):=
 au (s:=zD key) hF hP xL dF (sm0) Tryz.func66 fn0 apY (.inl rfl) (fun x0 gx0 x1 gx1 x2 gx2 hp U g=>apD x0 gx0 x1 gx1 x2 gx2 U g)
def ae7 (key:Nat):Sm:=⟨126,key,[.one (.int .i8)],[.one .bool],false⟩
def ad4 (n:Int):List Dt:=[.z (b2i (bO n))]
def uY:List Dt->List Dt
 | [.z x0]=>ad4 x0
 | _=>[]
def sT_isz:Tr:=
(.br (.eq (.var 0) (.lit 1))
(.leaf (.cb (.tt true) .nil))
(.br (.eq (.var 0) (.lit 2))
(.leaf (.cb (.tt true) .nil))
(.br (.eq (.var 0) (.lit 4))
(.leaf (.cb (.tt true) .nil))
(.leaf (.cb (.eq (.var 0) (.lit 8)) .nil)))))
def akt:Spec:={F:=fun k=>match k with | _=>fun _=>[],pre:=fun _ _=>True}
theorem apZ:ap tys_LiB [] [] [] [] 200 Tryz.f126 [.one (.int .i8)] [.one .bool] false [.int .i8] sT_isz:=⟨by kernel_rfl,by kernel_rfl,by kernel_rfl⟩
theorem apE (n:Int) (hn:inK .i8 n=true) (U:Env) (g:varsD U 0 [.int .i8]=[.z n]):sT_isz.asks akt (fun U e=>e.D U=uY [.z n]) U fun _ _=>False:=by
 simp only[varsD,varD,thm5,gS0,Nat.reduceAdd,and_true] at g
 simp only[sT_isz,akt,uY,ad4,simQ,af,S1,Nat.reduceSub,Nat.reduceAdd,-eq_self,aT,ab,g]
 constructor<;>intro c0
 ·(refine zb ?_;unfold bO;rw[aM];simp at *;omega)
 constructor<;>intro c1
 ·(refine zb ?_;unfold bO;rw[aM];simp at *;omega)
 constructor<;>intro c2
 ·(refine zb ?_;unfold bO;rw[aM];simp at *;omega)
 ·(refine zb ?_;unfold bO;rw[aM];simp at *;omega)
theorem aqg {sp:Spec} {key:Nat} (hF:sp.F key=uY) (hP:sp.pre key=fun _=>True:=by rfl):SmOk Tryz.prog sp (ae7 key):=
 au (s:=ae7 key) hF hP xL dF (sm0) Tryz.func126 fn0 apZ (.inl rfl) (fun x0 gx0 hp U g=>apE x0 gx0 U g)
def rQ (key:Nat):Sm:=⟨67,key,[.agg kIns],[.agg kIns,.one .bool],true⟩
def ra (x:Ins):List Dt:=[.z (((bL x).1).k),.z (((bL x).1).op),.z (((bL x).1).w),.z (((bL x).1).sz),.z (b2i (((bL x).1).br)),.z (((bL x).1).d),.z (((bL x).1).s),.z (((bL x).1).off),.z (((bL x).1).imm),.z (b2i ((bL x).2))]
def jP:List Dt->List Dt
 | [.z x0,.z x1,.z x2,.z x3,.z x4,.z x5,.z x6,.z x7,.z x8]=>ra ⟨x0,x1,x2,x3,(x4==1),x5,x6,x7,x8⟩
 | _=>[]
def alr:E:=(.zs [0,0,0] (.cons (.var 8) (.cb (.bw 9) .nil)))
def als:Tr:=(.leaf (.cons (.var 0) (.cons (.lit 0) (.cons (.lit 0) (.cons (.var 3) (.cb (.tt false) (.cons (.lit 0) (.cons (.lit 0) (.vs 7 2 (.cb (.tt false) .nil))))))))))
def ahn:Tr:=(.br (.bw 4)
 als
(.leaf (.cons (.var 0) (.cons (.lit 0) (.cons (.lit 0) (.cons (.var 3) (.cb (.tt false) (.cons (.lit 0) (.vs 6 2 (.cons (.lit 0) (.cb (.tt false) .nil)))))))))))
def alt:Tr:=(.br (.lt (.var 5) (.lit 10))
(.br (.eq (.var 1) (.lit 8))
(.br (.bw 4)
 als
(.leaf (.cons (.var 0) (.cons (.lit 0) (.cons (.lit 0) (.cons (.var 3) (.cb (.tt false) (.cons (.lit 0) (.vs 6 2 (.cons (.lit 0) (.cb (.eq (.var 8) (.lit 0)) .nil)))))))))))
(.br (.bw 4)
(.leaf (.cons (.var 0) (.cons (.lit 0) (.cons (.lit 0) (.cons (.var 3) (.cb (.tt false) (.cons (.lit 0) (.cons (.lit 0) (.vs 7 2 (.cb (.tt true) .nil))))))))))
(.leaf (.cons (.var 0) (.cons (.lit 0) (.cons (.lit 0) (.cons (.var 3) (.cb (.tt false) (.cons (.lit 0) (.vs 6 2 (.cons (.lit 0) (.cb (.tt true) .nil))))))))))))
 ahn)
def sT_ibare:Tr:=
(.br (.eq (.var 0) (.lit 0))
(.call 1 [.bool] (.cons (.var 1) (.cons (.lit 0) (.cons (.lit 12) .nil))) 9
(.br (.bw 9)
(.br (.eq (.var 2) (.lit 32))
 alt
(.br (.eq (.var 2) (.lit 64))
 alt
 ahn))
 ahn))
(.br (.eq (.var 0) (.lit 1))
(.call 2 [.bool] (.cons (.var 3) .nil) 9
(.br (.bw 9)
(.leaf (.vs 0 3 (.cons (.lit 0) (.cb (.bw 4) (.zs [0,0,0] (.cons (.var 8) (.cb (.lt (.var 5) (.lit 10)) .nil)))))))
(.leaf (.vs 0 3 (.cons (.lit 0) (.cb (.bw 4) (.zs [0,0,0] (.cons (.var 8) (.cb (.tt false) .nil)))))))))
(.br (.eq (.var 0) (.lit 2))
(.call 2 [.bool] (.cons (.var 3) .nil) 9
(.leaf (.vs 0 3 (.cons (.lit 0) (.cb (.bw 4) alr)))))
(.br (.eq (.var 0) (.lit 3))
(.call 1 [.bool] (.cons (.var 1) (.cons (.lit 0) (.cons (.lit 10) .nil))) 9
(.br (.bw 4)
(.leaf (.cons (.var 0) (.cons (.lit 0) (.vs 2 2 (.cb (.tt false) alr)))))
(.leaf (.cons (.var 0) (.cons (.lit 0) (.vs 2 2 (.cb (.tt false) (.cons (.lit 0) (.cons (.var 6) (.cons (.lit 0) (.cons (.lit 0) (.cb (.bw 9) .nil))))))))))))
(.br (.eq (.var 0) (.lit 4))
(.leaf (.vs 0 4 (.cb (.bw 4) (.vs 5 2 (.cons (.lit 0) (.cons (.var 8) (.cb (.tt true) .nil)))))))
(.br (.eq (.var 0) (.lit 5))
(.call 0 [.bool] (.cons (.var 8) (.cons (.lit 0) (.cons (.lit 15) .nil))) 9
(.leaf (.vs 0 4 (.cb (.bw 4) (.vs 5 3 (.cons (.lit 0) (.cb (.bw 9) .nil)))))))
(.br (.eq (.var 0) (.lit 6))
(.leaf (.vs 0 4 (.cb (.bw 4) (.vs 5 4 (.cb (.tt true) .nil)))))
(.leaf (.vs 0 4 (.cb (.bw 4) (.vs 5 4 (.cb (.tt false) .nil))))))))))))
def zy:Spec:={F:=fun k=>match k with | 0=>eX | 1=>nY | 2=>uY | _=>fun _=>[],pre:=fun _ _=>True}
theorem aiQ:ap tys_LiB [nu 0,zD 1,ae7 2] [(125,Tryz.f125,[],[])] [] [] 200 Tryz.f67 [.agg kIns] [.agg kIns,.one .bool] true [.int .i8,.int .i8,.int .i8,.int .i8,.bool,.int .i8,.int .i8,.int .i64,.int .i64] sT_ibare:=⟨by kernel_rfl,by kernel_rfl,by kernel_rfl⟩
theorem aim (x:Ins) (hx:Ins.ok x) (U:Env) (g:varsD U 0 [.int .i8,.int .i8,.int .i8,.int .i8,.bool,.int .i8,.int .i8,.int .i64,.int .i64]=[.z x.k,.z x.op,.z x.w,.z x.sz,.z (b2i x.br),.z x.d,.z x.s,.z x.off,.z x.imm]):sT_ibare.asks zy (fun U e=>e.D U=jP [.z x.k,.z x.op,.z x.w,.z x.sz,.z (b2i x.br),.z x.d,.z x.s,.z x.off,.z x.imm]) U fun _ _=>False:=by
 simp only[varsD,varD,thm5,gS0,Nat.reduceAdd,and_true] at g
 simp only[sT_ibare,alt,ahn,als,alr,zy,eX,nY,uY,mT,yW,ad4,jP,ra,simQ,af,S1,Nat.reduceSub,Nat.reduceAdd,-eq_self,aT,ab,g]
 constructor<;>intro c0
 intro e;(try simp only[e,aT,ab,-eq_self]);clear e
 constructor<;>intro c1
 constructor<;>intro c2
 constructor<;>intro c3
 constructor<;>intro c4
 constructor<;>intro c5
 ·(unfold bL immz;simp_all<;>omega)
 ·(unfold bL immz;simp_all<;>omega)
 constructor<;>intro c6
 ·(unfold bL immz;simp_all<;>omega)
 ·(unfold bL immz;simp_all<;>omega)
 constructor<;>intro c7
 ·(unfold bL immz;simp_all<;>omega)
 ·(unfold bL immz;simp_all<;>omega)
 constructor<;>intro c8
 constructor<;>intro c9
 constructor<;>intro c10
 constructor<;>intro c11
 ·(unfold bL immz;simp_all<;>omega)
 ·(unfold bL immz;simp_all<;>omega)
 constructor<;>intro c12
 ·(unfold bL immz;simp_all<;>omega)
 ·(unfold bL immz;simp_all<;>omega)
 constructor<;>intro c13
 ·(unfold bL immz;simp_all<;>omega)
 ·(unfold bL immz;simp_all<;>omega)
 constructor<;>intro c14
 ·(unfold bL immz;simp_all<;>omega)
 ·(unfold bL immz;simp_all<;>omega)
 constructor<;>intro c15
 ·(unfold bL immz;simp_all<;>omega)
 ·(unfold bL immz;simp_all<;>omega)
 constructor<;>intro c16
 intro e;(try simp only[e,aT,ab,-eq_self]);clear e
 constructor<;>intro c17
 ·(unfold bL immz;simp_all<;>omega)
 ·(unfold bL immz;simp_all<;>omega)
 constructor<;>intro c18
 intro e;(try simp only[e,aT,ab,-eq_self]);clear e
 ·(unfold bL immz;simp_all<;>omega)
 constructor<;>intro c19
 intro e;(try simp only[e,aT,ab,-eq_self]);clear e
 constructor<;>intro c20
 ·(unfold bL immz;simp_all<;>omega)
 ·(unfold bL immz;simp_all<;>omega)
 constructor<;>intro c21
 ·(unfold bL immz;simp_all<;>omega)
 constructor<;>intro c22
 intro e;(try simp only[e,aT,ab,-eq_self]);clear e
 ·(unfold bL immz;simp_all<;>omega)
 constructor<;>intro c23
 ·(unfold bL immz;simp_all<;>omega)
 ·(unfold bL immz;simp_all<;>omega)
theorem ajb {sp:Spec} {key:Nat} (hF:sp.F key=jP) (hP:sp.pre key=fun _=>True:=by rfl):SmOk Tryz.prog sp (rQ key):=
 au (s:=rQ key) hF hP xL dF (smc (uO rfl) (smc (akx rfl) (smc (aqg rfl) sm0))) Tryz.func67 (fnc Tryz.func125 fn0) aiQ (.inl rfl) (fun x0 gx0 x1 gx1 x2 gx2 x3 gx3 x4 x5 gx5 x6 gx6 x7 gx7 x8 gx8 hp U g=>aim ⟨x0,x1,x2,x3,x4,x5,x6,x7,x8⟩ ⟨gx0,gx1,gx2,gx3,gx5,gx6,gx7,gx8⟩ U g)
def rH (key:Nat):Sm:=⟨26,key,[.agg kIns],[.one .bool],false⟩
def qS (x:Ins):List Dt:=[.z (b2i (imay x))]
def iT:List Dt->List Dt
 | [.z x0,.z x1,.z x2,.z x3,.z x4,.z x5,.z x6,.z x7,.z x8]=>qS ⟨x0,x1,x2,x3,(x4==1),x5,x6,x7,x8⟩
 | _=>[]
def sT_nmay:Tr:=
(.call 1 [.bool] (.cons (.var 5) (.cons (.lit 0) (.cons (.lit 10) .nil))) 9
(.br (.bw 9)
(.call 1 [.bool] (.cons (.var 6) (.cons (.lit 0) (.cons (.lit 10) .nil))) 10
(.br (.bw 10)
(.call 0 [.bool] (.cons (.var 7) (.cons (.lit (-32768)) (.cons (.lit 32767) .nil))) 11
(.br (.bw 11)
(.call 0 [.bool] (.cons (.var 8) (.cons (.lit (-2147483648)) (.cons (.lit 2147483647) .nil))) 12
(.br (.bw 12)
(.call 2 (kIns++[.bool]) (.vs 0 4 (.cb (.bw 4) (.vs 5 4 .nil))) 13
(.br (.bw 22)
(.leaf (.cb (.and (.eq (.var 13) (.var 0)) (.and (.eq (.var 14) (.lit 0)) (.and (.eq (.var 15) (.lit 0)) (.and (.eq (.var 16) (.lit 0)) (.and (.not (.bw 17)) (.and (.eq (.var 18) (.lit 0)) (.and (.eq (.var 19) (.lit 0)) (.and (.eq (.var 20) (.lit 0)) (.and (.eq (.var 21) (.lit 0)) (.tt true)))))))))) .nil))
(.leaf (.cb (.tt false) .nil))))
(.leaf (.cb (.tt false) .nil))))
(.leaf (.cb (.tt false) .nil))))
(.leaf (.cb (.tt false) .nil))))
(.leaf (.cb (.tt false) .nil))))
def aeG:Spec:={F:=fun k=>match k with | 0=>eX | 1=>nY | 2=>jP | _=>fun _=>[],pre:=fun _ _=>True}
theorem anf:ap tys_LiB [nu 0,zD 1,rQ 2] [] [] [] 200 Tryz.f26 [.agg kIns] [.one .bool] false [.int .i8,.int .i8,.int .i8,.int .i8,.bool,.int .i8,.int .i8,.int .i64,.int .i64] sT_nmay:=⟨by kernel_rfl,by kernel_rfl,by kernel_rfl⟩
theorem amy (x:Ins) (hx:Ins.ok x) (U:Env) (g:varsD U 0 [.int .i8,.int .i8,.int .i8,.int .i8,.bool,.int .i8,.int .i8,.int .i64,.int .i64]=[.z x.k,.z x.op,.z x.w,.z x.sz,.z (b2i x.br),.z x.d,.z x.s,.z x.off,.z x.imm]):sT_nmay.asks aeG (fun U e=>e.D U=iT [.z x.k,.z x.op,.z x.w,.z x.sz,.z (b2i x.br),.z x.d,.z x.s,.z x.off,.z x.imm]) U fun _ _=>False:=by
 simp only[varsD,varD,thm5,gS0,Nat.reduceAdd,and_true] at g
 simp only[sT_nmay,aeG,kIns,eX,nY,jP,mT,yW,ra,iT,qS,simQ,af,S1,Nat.reduceSub,Nat.reduceAdd,-eq_self,aT,ab,g]
 intro e;(try simp only[e,aT,ab,-eq_self]);clear e
 constructor<;>intro c0
 intro e;(try simp only[e,aT,ab,-eq_self]);clear e
 constructor<;>intro c1
 intro e;(try simp only[e,aT,ab,-eq_self]);clear e
 constructor<;>intro c2
 intro e;(try simp only[e,aT,ab,-eq_self]);clear e
 constructor<;>intro c3
 intro e;(try simp only[e,aT,ab,-eq_self]);clear e
 constructor<;>intro c4
 ·(unfold imay lL oG;simp_all<;>omega)
 ·(unfold imay lL oG;simp_all<;>omega)
 ·(unfold imay lL oG;simp_all<;>omega)
 ·(unfold imay lL oG;simp_all<;>omega)
 ·(unfold imay lL oG;simp_all<;>omega)
 ·(unfold imay lL oG;simp_all<;>omega)
theorem afn {sp:Spec} {key:Nat} (hF:sp.F key=iT) (hP:sp.pre key=fun _=>True:=by rfl):SmOk Tryz.prog sp (rH key):=
 au (s:=rH key) hF hP xL dF (smc (uO rfl) (smc (akx rfl) (smc (ajb rfl) sm0))) Tryz.func26 fn0 anf (.inl rfl) (fun x0 gx0 x1 gx1 x2 gx2 x3 gx3 x4 x5 gx5 x6 gx6 x7 gx7 x8 gx8 hp U g=>amy ⟨x0,x1,x2,x3,x4,x5,x6,x7,x8⟩ ⟨gx0,gx1,gx2,gx3,gx5,gx6,gx7,gx8⟩ U g)
def rO (key:Nat):Sm:=⟨36,key,[.one (.int .i64),.agg kIns],[.one (.int .i64),.one .bool],true⟩
def wQ (i:Int) (x:Ins):List Dt:=[.z ((itgt i x).1),.z (b2i ((itgt i x).2))]
def gq:List Dt->List Dt
 | [.z x0,.z x1,.z x2,.z x3,.z x4,.z x5,.z x6,.z x7,.z x8,.z x9]=>wQ x0 ⟨x1,x2,x3,x4,(x5==1),x6,x7,x8,x9⟩
 | _=>[]
def ahm:Tr:=(.leaf (.cons (.lit 0) (.cb (.tt false) .nil)))
def alp:E:=(.cons (.lit (-1099511627776)) (.cons (.lit 1099511627776) .nil))
def alq:Tr:=(.call 0 [.bool] (.cons (.var 0) alp) 10
(.br (.bw 10)
(.call 0 [.bool] (.cons (.var 8) alp) 11
(.br (.bw 11)
(.leaf (.cons (.bin .add .i64 (.bin .add .i64 (.var 0) (.lit 1)) (.var 8)) (.cb (.tt true) .nil)))
 ahm))
 ahm))
def sT_itgt:Tr:=
(.br (.eq (.var 1) (.lit 3))
 alq
(.br (.eq (.var 1) (.lit 4))
 alq
 ahm))
def aeU:Spec:={F:=fun k=>match k with | 0=>eX | _=>fun _=>[],pre:=fun _ _=>True}
theorem ant:ap tys_LiB [nu 0] [] [] [] 200 Tryz.f36 [.one (.int .i64),.agg kIns] [.one (.int .i64),.one .bool] true [.int .i64,.int .i8,.int .i8,.int .i8,.int .i8,.bool,.int .i8,.int .i8,.int .i64,.int .i64] sT_itgt:=⟨by kernel_rfl,by kernel_rfl,by kernel_rfl⟩
theorem amM (i:Int) (hi:inK .i64 i=true) (x:Ins) (hx:Ins.ok x) (U:Env) (g:varsD U 0 [.int .i64,.int .i8,.int .i8,.int .i8,.int .i8,.bool,.int .i8,.int .i8,.int .i64,.int .i64]=[.z i,.z x.k,.z x.op,.z x.w,.z x.sz,.z (b2i x.br),.z x.d,.z x.s,.z x.off,.z x.imm]):sT_itgt.asks aeU (fun U e=>e.D U=gq [.z i,.z x.k,.z x.op,.z x.w,.z x.sz,.z (b2i x.br),.z x.d,.z x.s,.z x.off,.z x.imm]) U fun _ _=>False:=by
 simp only[varsD,varD,thm5,gS0,Nat.reduceAdd,and_true] at g
 simp only[sT_itgt,alq,alp,ahm,aeU,eX,mT,gq,wQ,simQ,af,S1,Nat.reduceSub,Nat.reduceAdd,-eq_self,aT,ab,g]
 constructor<;>intro c0
 intro e;(try simp only[e,aT,ab,-eq_self]);clear e
 constructor<;>intro c1
 intro e;(try simp only[e,aT,ab,-eq_self]);clear e
 constructor<;>intro c2
 ·rw[akK (.inl (eqI c0)) c1 c2];try rfl
 ·rw[akL c2];try rfl
 ·rw[akM c1];try rfl
 constructor<;>intro c3
 intro e;(try simp only[e,aT,ab,-eq_self]);clear e
 constructor<;>intro c4
 intro e;(try simp only[e,aT,ab,-eq_self]);clear e
 constructor<;>intro c5
 ·rw[akK (.inr (eqI c3)) c4 c5];try rfl
 ·rw[akL c5];try rfl
 ·rw[akM c4];try rfl
 ·rw[aqJ c0 c3];try rfl
theorem afu {sp:Spec} {key:Nat} (hF:sp.F key=gq) (hP:sp.pre key=fun _=>True:=by rfl):SmOk Tryz.prog sp (rO key):=
 au (s:=rO key) hF hP xL dF (smc (uO rfl) sm0) Tryz.func36 fn0 ant (.inl rfl) (fun x0 gx0 x1 gx1 x2 gx2 x3 gx3 x4 gx4 x5 x6 gx6 x7 gx7 x8 gx8 x9 gx9 hp U g=>amM x0 gx0 ⟨x1,x2,x3,x4,x5,x6,x7,x8,x9⟩ ⟨gx1,gx2,gx3,gx4,gx6,gx7,gx8,gx9⟩ U g)
def rR (key:Nat):Sm:=⟨41,key,[.one (.int .i64)],[.one (.int .i64)],false⟩
def rb (n:Int):List Dt:=[.z (sF n)]
def jQ:List Dt->List Dt
 | [.z x0]=>rb x0
 | _=>[]
def sT_iargs:Tr:=
(.call 0 [.bool] (.cons (.var 0) (.cons (.lit 0) (.cons (.lit 15) .nil))) 1
(.br (.bw 1)
(.leaf (.cons (.bin .rem .i64 (.var 0) (.lit 6)) .nil))
(.leaf (.cons (.lit 0) .nil))))
def zA:Spec:={F:=fun k=>match k with | 0=>eX | _=>fun _=>[],pre:=fun _ _=>True}
theorem aiR:ap tys_LiB [nu 0] [] [] [] 200 Tryz.f41 [.one (.int .i64)] [.one (.int .i64)] false [.int .i64] sT_iargs:=⟨by kernel_rfl,by kernel_rfl,by kernel_rfl⟩
theorem ain (n:Int) (hn:inK .i64 n=true) (U:Env) (g:varsD U 0 [.int .i64]=[.z n]):sT_iargs.asks zA (fun U e=>e.D U=jQ [.z n]) U fun _ _=>False:=by
 simp only[varsD,varD,thm5,gS0,Nat.reduceAdd,and_true] at g
 simp only[sT_iargs,zA,eX,mT,jQ,rb,simQ,af,S1,Nat.reduceSub,Nat.reduceAdd,-eq_self,aT,ab,g]
 intro e;(try simp only[e,aT,ab,-eq_self]);clear e
 constructor<;>intro c0
 ·rw[aoB c0];try rfl
 ·rw[aoC c0];try rfl
theorem ajc {sp:Spec} {key:Nat} (hF:sp.F key=jQ) (hP:sp.pre key=fun _=>True:=by rfl):SmOk Tryz.prog sp (rR key):=
 au (s:=rR key) hF hP xL dF (smc (uO rfl) sm0) Tryz.func41 fn0 aiR (.inl rfl) (fun x0 gx0 hp U g=>ain x0 gx0 U g)
end Go.Proofs.YtfkhblmeioiciaaGreatDoor
