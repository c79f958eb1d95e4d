import Derived.Test.YtfkhblmeioiciaaGreatDoorSyZe
import Derived.Test.YtfkhblmeioiciaaGreatDoorBdZ
import Derived.Test.YtfkhblmeioiciaaGreatDoorProg
import Derived.Laws.Externs
set_option maxRecDepth 100000
set_option maxHeartbeats 8000000
set_option linter.unusedVariables false
set_option linter.unusedSimpArgs false
namespace Go.Proofs.YtfkhblmeioiciaaGreatDoor
open Go.RowKit Go.ChangeShapes Go.WideShapes
structure Pu where
 lo:Int
 hi:Int
structure Pi where
 lo:Int
 hi:Int
theorem Rg.eta (a:Rg):(⟨a.ul,a.uh,a.sl,a.sh⟩:Rg)=a:=rfl
def Rg.ok (a:Rg):Prop:=inK .u64 a.ul=true/\inK .u64 a.uh=true/\inK .i64 a.sl=true/\inK .i64 a.sh=true
def kRg:List CK:=[.int .u64,.int .u64,.int .i64,.int .i64]
theorem Pu.eta (a:Pu):(⟨a.lo,a.hi⟩:Pu)=a:=rfl
def Pu.ok (a:Pu):Prop:=inK .u64 a.lo=true/\inK .u64 a.hi=true
def kPu:List CK:=[.int .u64,.int .u64]
theorem Pi.eta (a:Pi):(⟨a.lo,a.hi⟩:Pi)=a:=rfl
def Pi.ok (a:Pi):Prop:=inK .i64 a.lo=true/\inK .i64 a.hi=true
def kPi:List CK:=[.int .i64,.int .i64]
def tys_XbA:List (Nat×TI):=[(2,⟨false,1,[.int .i64 (.lit 0)],[],none,some .i64,false,false,none,8,false,none,false,0⟩),
 (42,⟨false,1,[.int .u64 (.lit 0)],[],none,some .u64,false,false,none,8,false,none,false,0⟩),
 (44,⟨true,4,(zN 4 2211),[(0,42),(1,42),(2,2),(3,2)],none,none,false,false,none,32,false,none,false,0⟩),
 (209,⟨true,2,[.int .u64 (.lit 0),.int .u64 (.lit 0)],[(0,42),(1,42)],none,none,false,false,none,16,false,none,false,0⟩),
 (213,⟨true,2,[.int .i64 (.lit 0),.int .i64 (.lit 0)],[(0,2),(1,2)],none,none,false,false,none,16,false,none,false,0⟩)]
theorem acm:(tys_XbA.all fun p=>ckTI Tryz.prog p.1 p.2)=true:=by kernel_rfl
theorem sP:(tys_XbA.all fun p=>!p.2.eqok)=true:=by kernel_rfl
theorem ab1:(tys_XbA.all fun p=>!p.2.keyok)=true:=by kernel_rfl
theorem bc:∀t i,(t,i)∈tys_XbA->TIok Tryz.prog t i:=by
 intro t i h
 refine bC (cz (f:=ckTI Tryz.prog) acm h) (fun he=> ?_) (fun he=> ?_) (fun he=> ?_)
 ·have h1:=thm7.1 sP (t,i) h
  simp[he] at h1
 ·have h1:=thm7.1 sP (t,i) h
  simp[he] at h1
 ·have h1:=thm7.1 ab1 (t,i) h
  simp[he] at h1
def lg (key:Nat):Sm:=⟨174,key,[.agg kRg],[.agg kPu],false⟩
def lc (a:Rg):List Dt:=[.z (((⟨a.ul,a.uh⟩:Pu)).lo),.z (((⟨a.ul,a.uh⟩:Pu)).hi)]
def dE:List Dt->List Dt
 | [.z x0,.z x1,.z x2,.z x3]=>lc ⟨x0,x1,x2,x3⟩
 | _=>[]
def sT_uns:Tr:=
(.leaf (.vs 0 2 .nil))
def ajC:Spec:={F:=fun k=>match k with | _=>fun _=>[],pre:=fun k=>match k with | _=>fun _=>True}
theorem aor:aq tys_XbA [] [] [] [] 200 Tryz.f174 [.agg kRg] [.agg kPu] false [.int .u64,.int .u64,.int .i64,.int .i64] sT_uns:=⟨by kernel_rfl,by kernel_rfl,by kernel_rfl⟩
theorem an5 (a:Rg) (ha:Rg.ok a) (U:Env) (g:ab U 0 [.int .u64,.int .u64,.int .i64,.int .i64]=[.z a.ul,.z a.uh,.z a.sl,.z a.sh]):sT_uns.asks ajC (fun U e=>e.D U=dE [.z a.ul,.z a.uh,.z a.sl,.z a.sh]) U fun _ _=>False:=by
 simp only[ab,varD,thm5,Dt.z.injEq,Dt.l.injEq,b2i_eq_iff,Nat.reduceAdd,and_true] at g
 simp only[sT_uns,ajC,dE,lc,Tr.asks,ah,okDs,okD,eqs,E.I,E.B,E.L,E.R,E.D,E.vs,E.gs,E.ins,E.sv,E.tn,E.iv,E.zs,E.zr,E.sg,E.tg,E.rg,E.rgs,E.pv,Nat.reduceSub,dI,dB,dL,varD,ab,S1,Nat.reduceAdd,-eq_self,Rg.eta,g]
 ·rfl
theorem pd {sp:Spec} {key:Nat} (hF:sp.F key=dE) (hP:sp.pre key=fun _=>True:=by rfl):SmOk Tryz.prog sp (lg key):=
 av (s:=lg key) hF hP (by kernel_rfl) bc (sm0) Tryz.func174 fn0 aor (.inl rfl) (fun x0 gx0 x1 gx1 x2 gx2 x3 gx3 hp U g=>an5 ⟨x0,x1,x2,x3⟩ ⟨gx0,gx1,gx2,gx3⟩ U g)
def lh (key:Nat):Sm:=⟨176,key,[.agg kRg],[.agg kPi],false⟩
def lf (a:Rg):List Dt:=[.z (((⟨a.sl,a.sh⟩:Pi)).lo),.z (((⟨a.sl,a.sh⟩:Pi)).hi)]
def dG:List Dt->List Dt
 | [.z x0,.z x1,.z x2,.z x3]=>lf ⟨x0,x1,x2,x3⟩
 | _=>[]
def sT_sig:Tr:=
(.leaf (.vs 2 2 .nil))
def ajE:Spec:={F:=fun k=>match k with | _=>fun _=>[],pre:=fun k=>match k with | _=>fun _=>True}
theorem aot:aq tys_XbA [] [] [] [] 200 Tryz.f176 [.agg kRg] [.agg kPi] false [.int .u64,.int .u64,.int .i64,.int .i64] sT_sig:=⟨by kernel_rfl,by kernel_rfl,by kernel_rfl⟩
theorem an7 (a:Rg) (ha:Rg.ok a) (U:Env) (g:ab U 0 [.int .u64,.int .u64,.int .i64,.int .i64]=[.z a.ul,.z a.uh,.z a.sl,.z a.sh]):sT_sig.asks ajE (fun U e=>e.D U=dG [.z a.ul,.z a.uh,.z a.sl,.z a.sh]) U fun _ _=>False:=by
 simp only[ab,varD,thm5,Dt.z.injEq,Dt.l.injEq,b2i_eq_iff,Nat.reduceAdd,and_true] at g
 simp only[sT_sig,ajE,dG,lf,Tr.asks,ah,okDs,okD,eqs,E.I,E.B,E.L,E.R,E.D,E.vs,E.gs,E.ins,E.sv,E.tn,E.iv,E.zs,E.zr,E.sg,E.tg,E.rg,E.rgs,E.pv,Nat.reduceSub,dI,dB,dL,varD,ab,S1,Nat.reduceAdd,-eq_self,Rg.eta,g]
 ·rfl
theorem pf {sp:Spec} {key:Nat} (hF:sp.F key=dG) (hP:sp.pre key=fun _=>True:=by rfl):SmOk Tryz.prog sp (lh key):=
 av (s:=lh key) hF hP (by kernel_rfl) bc (sm0) Tryz.func176 fn0 aot (.inl rfl) (fun x0 gx0 x1 gx1 x2 gx2 x3 gx3 hp U g=>an7 ⟨x0,x1,x2,x3⟩ ⟨gx0,gx1,gx2,gx3⟩ U g)
def wJ (key:Nat):Sm:=⟨219,key,[.agg kPu],[.one .bool],false⟩
def we (a:Pu):List Dt:=[.z (b2i (decide (a.lo<=a.hi)))]
def nA:List Dt->List Dt
 | [.z x0,.z x1]=>we ⟨x0,x1⟩
 | _=>[]
def sT_umay:Tr:=
(.leaf (.consb (.not (.lt (.var 1) (.var 0))) .nil))
def aea:Spec:={F:=fun k=>match k with | _=>fun _=>[],pre:=fun k=>match k with | _=>fun _=>True}
theorem alN:aq tys_XbA [] [] [] [] 200 Tryz.f219 [.agg kPu] [.one .bool] false [.int .u64,.int .u64] sT_umay:=⟨by kernel_rfl,by kernel_rfl,by kernel_rfl⟩
theorem ak5 (a:Pu) (ha:Pu.ok a) (U:Env) (g:ab U 0 [.int .u64,.int .u64]=[.z a.lo,.z a.hi]):sT_umay.asks aea (fun U e=>e.D U=nA [.z a.lo,.z a.hi]) U fun _ _=>False:=by
 simp only[ab,varD,thm5,Dt.z.injEq,Dt.l.injEq,b2i_eq_iff,Nat.reduceAdd,and_true] at g
 simp only[sT_umay,aea,nA,we,Tr.asks,ah,okDs,okD,eqs,E.I,E.B,E.L,E.R,E.D,E.vs,E.gs,E.ins,E.sv,E.tn,E.iv,E.zs,E.zr,E.sg,E.tg,E.rg,E.rgs,E.pv,Nat.reduceSub,dI,dB,dL,varD,ab,S1,Nat.reduceAdd,-eq_self,Pu.eta,g]
 ·simp[bY]
theorem amp {sp:Spec} {key:Nat} (hF:sp.F key=nA) (hP:sp.pre key=fun _=>True:=by rfl):SmOk Tryz.prog sp (wJ key):=
 av (s:=wJ key) hF hP (by kernel_rfl) bc (sm0) Tryz.func219 fn0 alN (.inl rfl) (fun x0 gx0 x1 gx1 hp U g=>ak5 ⟨x0,x1⟩ ⟨gx0,gx1⟩ U g)
def wT (key:Nat):Sm:=⟨220,key,[.agg kPi],[.one .bool],false⟩
def wu (a:Pi):List Dt:=[.z (b2i (decide (a.lo<=a.hi)))]
def nM:List Dt->List Dt
 | [.z x0,.z x1]=>wu ⟨x0,x1⟩
 | _=>[]
def sT_imay:Tr:=
(.leaf (.consb (.not (.lt (.var 1) (.var 0))) .nil))
def aew:Spec:={F:=fun k=>match k with | _=>fun _=>[],pre:=fun k=>match k with | _=>fun _=>True}
theorem al9:aq tys_XbA [] [] [] [] 200 Tryz.f220 [.agg kPi] [.one .bool] false [.int .i64,.int .i64] sT_imay:=⟨by kernel_rfl,by kernel_rfl,by kernel_rfl⟩
theorem alt (a:Pi) (ha:Pi.ok a) (U:Env) (g:ab U 0 [.int .i64,.int .i64]=[.z a.lo,.z a.hi]):sT_imay.asks aew (fun U e=>e.D U=nM [.z a.lo,.z a.hi]) U fun _ _=>False:=by
 simp only[ab,varD,thm5,Dt.z.injEq,Dt.l.injEq,b2i_eq_iff,Nat.reduceAdd,and_true] at g
 simp only[sT_imay,aew,nM,wu,Tr.asks,ah,okDs,okD,eqs,E.I,E.B,E.L,E.R,E.D,E.vs,E.gs,E.ins,E.sv,E.tn,E.iv,E.zs,E.zr,E.sg,E.tg,E.rg,E.rgs,E.pv,Nat.reduceSub,dI,dB,dL,varD,ab,S1,Nat.reduceAdd,-eq_self,Pi.eta,g]
 ·simp[bY]
theorem amy {sp:Spec} {key:Nat} (hF:sp.F key=nM) (hP:sp.pre key=fun _=>True:=by rfl):SmOk Tryz.prog sp (wT key):=
 av (s:=wT key) hF hP (by kernel_rfl) bc (sm0) Tryz.func220 fn0 al9 (.inl rfl) (fun x0 gx0 x1 gx1 hp U g=>alt ⟨x0,x1⟩ ⟨gx0,gx1⟩ U g)
def wK (key:Nat):Sm:=⟨175,key,[.agg kPu,.one (.int .u64)],[.one .bool],false⟩
def wg (a:Pu) (v:Int):List Dt:=[.z (b2i ((decide (a.lo<=v)&&decide (v<=a.hi))))]
def nB:List Dt->List Dt
 | [.z x0,.z x1,.z x2]=>wg ⟨x0,x1⟩ x2
 | _=>[]
def sT_uhas:Tr:=
(.br (.lt (.var 2) (.var 0))
(.leaf (.consb (.tt false) .nil))
(.leaf (.consb (.not (.lt (.var 1) (.var 2))) .nil)))
def aeb:Spec:={F:=fun k=>match k with | _=>fun _=>[],pre:=fun k=>match k with | _=>fun _=>True}
theorem alO:aq tys_XbA [] [] [] [] 200 Tryz.f175 [.agg kPu,.one (.int .u64)] [.one .bool] false [.int .u64,.int .u64,.int .u64] sT_uhas:=⟨by kernel_rfl,by kernel_rfl,by kernel_rfl⟩
theorem ak6 (a:Pu) (ha:Pu.ok a) (v:Int) (hv:inK .u64 v=true) (U:Env) (g:ab U 0 [.int .u64,.int .u64,.int .u64]=[.z a.lo,.z a.hi,.z v]):sT_uhas.asks aeb (fun U e=>e.D U=nB [.z a.lo,.z a.hi,.z v]) U fun _ _=>False:=by
 simp only[ab,varD,thm5,Dt.z.injEq,Dt.l.injEq,b2i_eq_iff,Nat.reduceAdd,and_true] at g
 simp only[sT_uhas,aeb,nB,wg,Tr.asks,ah,okDs,okD,eqs,E.I,E.B,E.L,E.R,E.D,E.vs,E.gs,E.ins,E.sv,E.tn,E.iv,E.zs,E.zr,E.sg,E.tg,E.rg,E.rgs,E.pv,Nat.reduceSub,dI,dB,dL,varD,ab,S1,Nat.reduceAdd,-eq_self,Pu.eta,g]
 constructor<;>intro c0
 ·simp_all [bY]
 ·simp_all [bY]
theorem amq {sp:Spec} {key:Nat} (hF:sp.F key=nB) (hP:sp.pre key=fun _=>True:=by rfl):SmOk Tryz.prog sp (wK key):=
 av (s:=wK key) hF hP (by kernel_rfl) bc (sm0) Tryz.func175 fn0 alO (.inl rfl) (fun x0 gx0 x1 gx1 x2 gx2 hp U g=>ak6 ⟨x0,x1⟩ ⟨gx0,gx1⟩ x2 gx2 U g)
def wU (key:Nat):Sm:=⟨177,key,[.agg kPi,.one (.int .i64)],[.one .bool],false⟩
def wv (a:Pi) (v:Int):List Dt:=[.z (b2i ((decide (a.lo<=v)&&decide (v<=a.hi))))]
def nN:List Dt->List Dt
 | [.z x0,.z x1,.z x2]=>wv ⟨x0,x1⟩ x2
 | _=>[]
def sT_ihas:Tr:=
(.br (.lt (.var 2) (.var 0))
(.leaf (.consb (.tt false) .nil))
(.leaf (.consb (.not (.lt (.var 1) (.var 2))) .nil)))
def aex:Spec:={F:=fun k=>match k with | _=>fun _=>[],pre:=fun k=>match k with | _=>fun _=>True}
theorem ama:aq tys_XbA [] [] [] [] 200 Tryz.f177 [.agg kPi,.one (.int .i64)] [.one .bool] false [.int .i64,.int .i64,.int .i64] sT_ihas:=⟨by kernel_rfl,by kernel_rfl,by kernel_rfl⟩
theorem alu (a:Pi) (ha:Pi.ok a) (v:Int) (hv:inK .i64 v=true) (U:Env) (g:ab U 0 [.int .i64,.int .i64,.int .i64]=[.z a.lo,.z a.hi,.z v]):sT_ihas.asks aex (fun U e=>e.D U=nN [.z a.lo,.z a.hi,.z v]) U fun _ _=>False:=by
 simp only[ab,varD,thm5,Dt.z.injEq,Dt.l.injEq,b2i_eq_iff,Nat.reduceAdd,and_true] at g
 simp only[sT_ihas,aex,nN,wv,Tr.asks,ah,okDs,okD,eqs,E.I,E.B,E.L,E.R,E.D,E.vs,E.gs,E.ins,E.sv,E.tn,E.iv,E.zs,E.zr,E.sg,E.tg,E.rg,E.rgs,E.pv,Nat.reduceSub,dI,dB,dL,varD,ab,S1,Nat.reduceAdd,-eq_self,Pi.eta,g]
 constructor<;>intro c0
 ·simp_all [bY]
 ·simp_all [bY]
theorem amz {sp:Spec} {key:Nat} (hF:sp.F key=nN) (hP:sp.pre key=fun _=>True:=by rfl):SmOk Tryz.prog sp (wU key):=
 av (s:=wU key) hF hP (by kernel_rfl) bc (sm0) Tryz.func177 fn0 ama (.inl rfl) (fun x0 gx0 x1 gx1 x2 gx2 hp U g=>alu ⟨x0,x1⟩ ⟨gx0,gx1⟩ x2 gx2 U g)
def lO (key:Nat):Sm:=⟨236,key,[.agg kPu,.agg kPu],[.agg kPu],false⟩
def lK (a:Pu) (b:Pu):List Dt:=[.z (((⟨max a.lo b.lo,min a.hi b.hi⟩:Pu)).lo),.z (((⟨max a.lo b.lo,min a.hi b.hi⟩:Pu)).hi)]
def fd:List Dt->List Dt
 | [.z x0,.z x1,.z x2,.z x3]=>lK ⟨x0,x1⟩ ⟨x2,x3⟩
 | _=>[]
def sT_umeet:Tr:=
(.leaf (.cons (.mx (.var 0) (.var 2)) (.cons (.mn (.var 1) (.var 3)) .nil)))
def yK:Spec:={F:=fun k=>match k with | _=>fun _=>[],pre:=fun k=>match k with | _=>fun _=>True}
theorem ahZ:aq tys_XbA [] [] [] [] 200 Tryz.f236 [.agg kPu,.agg kPu] [.agg kPu] false [.int .u64,.int .u64,.int .u64,.int .u64] sT_umeet:=⟨by kernel_rfl,by kernel_rfl,by kernel_rfl⟩
theorem ahv (a:Pu) (ha:Pu.ok a) (b:Pu) (hb:Pu.ok b) (U:Env) (g:ab U 0 [.int .u64,.int .u64,.int .u64,.int .u64]=[.z a.lo,.z a.hi,.z b.lo,.z b.hi]):sT_umeet.asks yK (fun U e=>e.D U=fd [.z a.lo,.z a.hi,.z b.lo,.z b.hi]) U fun _ _=>False:=by
 simp only[ab,varD,thm5,Dt.z.injEq,Dt.l.injEq,b2i_eq_iff,Nat.reduceAdd,and_true] at g
 simp only[sT_umeet,yK,fd,lK,Tr.asks,ah,okDs,okD,eqs,E.I,E.B,E.L,E.R,E.D,E.vs,E.gs,E.ins,E.sv,E.tn,E.iv,E.zs,E.zr,E.sg,E.tg,E.rg,E.rgs,E.pv,Nat.reduceSub,dI,dB,dL,varD,ab,S1,Nat.reduceAdd,-eq_self,Pu.eta,g]
 ·rfl
theorem zg {sp:Spec} {key:Nat} (hF:sp.F key=fd) (hP:sp.pre key=fun _=>True:=by rfl):SmOk Tryz.prog sp (lO key):=
 av (s:=lO key) hF hP (by kernel_rfl) bc (sm0) Tryz.func236 fn0 ahZ (.inl rfl) (fun x0 gx0 x1 gx1 x2 gx2 x3 gx3 hp U g=>ahv ⟨x0,x1⟩ ⟨gx0,gx1⟩ ⟨x2,x3⟩ ⟨gx2,gx3⟩ U g)
def qW (key:Nat):Sm:=⟨204,key,[.agg kPu,.agg kPu],[.agg kPu],false⟩
def qu (a:Pu) (b:Pu):List Dt:=[.z (((⟨min a.lo b.lo,max a.hi b.hi⟩:Pu)).lo),.z (((⟨min a.lo b.lo,max a.hi b.hi⟩:Pu)).hi)]
def js:List Dt->List Dt
 | [.z x0,.z x1,.z x2,.z x3]=>qu ⟨x0,x1⟩ ⟨x2,x3⟩
 | _=>[]
def sT_ujoin:Tr:=
(.leaf (.cons (.mn (.var 0) (.var 2)) (.cons (.mx (.var 1) (.var 3)) .nil)))
def yL:Spec:={F:=fun k=>match k with | _=>fun _=>[],pre:=fun k=>match k with | _=>fun _=>True}
theorem ah0:aq tys_XbA [] [] [] [] 200 Tryz.f204 [.agg kPu,.agg kPu] [.agg kPu] false [.int .u64,.int .u64,.int .u64,.int .u64] sT_ujoin:=⟨by kernel_rfl,by kernel_rfl,by kernel_rfl⟩
theorem ahw (a:Pu) (ha:Pu.ok a) (b:Pu) (hb:Pu.ok b) (U:Env) (g:ab U 0 [.int .u64,.int .u64,.int .u64,.int .u64]=[.z a.lo,.z a.hi,.z b.lo,.z b.hi]):sT_ujoin.asks yL (fun U e=>e.D U=js [.z a.lo,.z a.hi,.z b.lo,.z b.hi]) U fun _ _=>False:=by
 simp only[ab,varD,thm5,Dt.z.injEq,Dt.l.injEq,b2i_eq_iff,Nat.reduceAdd,and_true] at g
 simp only[sT_ujoin,yL,js,qu,Tr.asks,ah,okDs,okD,eqs,E.I,E.B,E.L,E.R,E.D,E.vs,E.gs,E.ins,E.sv,E.tn,E.iv,E.zs,E.zr,E.sg,E.tg,E.rg,E.rgs,E.pv,Nat.reduceSub,dI,dB,dL,varD,ab,S1,Nat.reduceAdd,-eq_self,Pu.eta,g]
 ·rfl
theorem aiq {sp:Spec} {key:Nat} (hF:sp.F key=js) (hP:sp.pre key=fun _=>True:=by rfl):SmOk Tryz.prog sp (qW key):=
 av (s:=qW key) hF hP (by kernel_rfl) bc (sm0) Tryz.func204 fn0 ah0 (.inl rfl) (fun x0 gx0 x1 gx1 x2 gx2 x3 gx3 hp U g=>ahw ⟨x0,x1⟩ ⟨gx0,gx1⟩ ⟨x2,x3⟩ ⟨gx2,gx3⟩ U g)
def lR (key:Nat):Sm:=⟨237,key,[.agg kPi,.agg kPi],[.agg kPi],false⟩
def lN (a:Pi) (b:Pi):List Dt:=[.z (((⟨max a.lo b.lo,min a.hi b.hi⟩:Pi)).lo),.z (((⟨max a.lo b.lo,min a.hi b.hi⟩:Pi)).hi)]
def fi:List Dt->List Dt
 | [.z x0,.z x1,.z x2,.z x3]=>lN ⟨x0,x1⟩ ⟨x2,x3⟩
 | _=>[]
def sT_imeet:Tr:=
(.leaf (.cons (.mx (.var 0) (.var 2)) (.cons (.mn (.var 1) (.var 3)) .nil)))
def yX:Spec:={F:=fun k=>match k with | _=>fun _=>[],pre:=fun k=>match k with | _=>fun _=>True}
theorem aic:aq tys_XbA [] [] [] [] 200 Tryz.f237 [.agg kPi,.agg kPi] [.agg kPi] false [.int .i64,.int .i64,.int .i64,.int .i64] sT_imeet:=⟨by kernel_rfl,by kernel_rfl,by kernel_rfl⟩
theorem ahI (a:Pi) (ha:Pi.ok a) (b:Pi) (hb:Pi.ok b) (U:Env) (g:ab U 0 [.int .i64,.int .i64,.int .i64,.int .i64]=[.z a.lo,.z a.hi,.z b.lo,.z b.hi]):sT_imeet.asks yX (fun U e=>e.D U=fi [.z a.lo,.z a.hi,.z b.lo,.z b.hi]) U fun _ _=>False:=by
 simp only[ab,varD,thm5,Dt.z.injEq,Dt.l.injEq,b2i_eq_iff,Nat.reduceAdd,and_true] at g
 simp only[sT_imeet,yX,fi,lN,Tr.asks,ah,okDs,okD,eqs,E.I,E.B,E.L,E.R,E.D,E.vs,E.gs,E.ins,E.sv,E.tn,E.iv,E.zs,E.zr,E.sg,E.tg,E.rg,E.rgs,E.pv,Nat.reduceSub,dI,dB,dL,varD,ab,S1,Nat.reduceAdd,-eq_self,Pi.eta,g]
 ·rfl
theorem zj {sp:Spec} {key:Nat} (hF:sp.F key=fi) (hP:sp.pre key=fun _=>True:=by rfl):SmOk Tryz.prog sp (lR key):=
 av (s:=lR key) hF hP (by kernel_rfl) bc (sm0) Tryz.func237 fn0 aic (.inl rfl) (fun x0 gx0 x1 gx1 x2 gx2 x3 gx3 hp U g=>ahI ⟨x0,x1⟩ ⟨gx0,gx1⟩ ⟨x2,x3⟩ ⟨gx2,gx3⟩ U g)
def rx (key:Nat):Sm:=⟨205,key,[.agg kPi,.agg kPi],[.agg kPi],false⟩
def qJ (a:Pi) (b:Pi):List Dt:=[.z (((⟨min a.lo b.lo,max a.hi b.hi⟩:Pi)).lo),.z (((⟨min a.lo b.lo,max a.hi b.hi⟩:Pi)).hi)]
def jz:List Dt->List Dt
 | [.z x0,.z x1,.z x2,.z x3]=>qJ ⟨x0,x1⟩ ⟨x2,x3⟩
 | _=>[]
def sT_ijoin:Tr:=
(.leaf (.cons (.mn (.var 0) (.var 2)) (.cons (.mx (.var 1) (.var 3)) .nil)))
def yY:Spec:={F:=fun k=>match k with | _=>fun _=>[],pre:=fun k=>match k with | _=>fun _=>True}
theorem aid:aq tys_XbA [] [] [] [] 200 Tryz.f205 [.agg kPi,.agg kPi] [.agg kPi] false [.int .i64,.int .i64,.int .i64,.int .i64] sT_ijoin:=⟨by kernel_rfl,by kernel_rfl,by kernel_rfl⟩
theorem ahJ (a:Pi) (ha:Pi.ok a) (b:Pi) (hb:Pi.ok b) (U:Env) (g:ab U 0 [.int .i64,.int .i64,.int .i64,.int .i64]=[.z a.lo,.z a.hi,.z b.lo,.z b.hi]):sT_ijoin.asks yY (fun U e=>e.D U=jz [.z a.lo,.z a.hi,.z b.lo,.z b.hi]) U fun _ _=>False:=by
 simp only[ab,varD,thm5,Dt.z.injEq,Dt.l.injEq,b2i_eq_iff,Nat.reduceAdd,and_true] at g
 simp only[sT_ijoin,yY,jz,qJ,Tr.asks,ah,okDs,okD,eqs,E.I,E.B,E.L,E.R,E.D,E.vs,E.gs,E.ins,E.sv,E.tn,E.iv,E.zs,E.zr,E.sg,E.tg,E.rg,E.rgs,E.pv,Nat.reduceSub,dI,dB,dL,varD,ab,S1,Nat.reduceAdd,-eq_self,Pi.eta,g]
 ·rfl
theorem aiy {sp:Spec} {key:Nat} (hF:sp.F key=jz) (hP:sp.pre key=fun _=>True:=by rfl):SmOk Tryz.prog sp (rx key):=
 av (s:=rx key) hF hP (by kernel_rfl) bc (sm0) Tryz.func205 fn0 aid (.inl rfl) (fun x0 gx0 x1 gx1 x2 gx2 x3 gx3 hp U g=>ahJ ⟨x0,x1⟩ ⟨gx0,gx1⟩ ⟨x2,x3⟩ ⟨gx2,gx3⟩ U g)
def uk (key:Nat):Sm:=⟨186,key,[.agg kPu,.agg kPi],[.agg kRg],false⟩
def tS (a:Pu) (b:Pi):List Dt:=[.z (((⟨a.lo,a.hi,b.lo,b.hi⟩:Rg)).ul),.z (((⟨a.lo,a.hi,b.lo,b.hi⟩:Rg)).uh),.z (((⟨a.lo,a.hi,b.lo,b.hi⟩:Rg)).sl),.z (((⟨a.lo,a.hi,b.lo,b.hi⟩:Rg)).sh)]
def iB:List Dt->List Dt
 | [.z x0,.z x1,.z x2,.z x3]=>tS ⟨x0,x1⟩ ⟨x2,x3⟩
 | _=>[]
def sT_of:Tr:=
(.leaf (.vs 0 4 .nil))
def aoH:Spec:={F:=fun k=>match k with | _=>fun _=>[],pre:=fun k=>match k with | _=>fun _=>True}
theorem aqp:aq tys_XbA [] [] [] [] 200 Tryz.f186 [.agg kPu,.agg kPi] [.agg kRg] false [.int .u64,.int .u64,.int .i64,.int .i64] sT_of:=⟨by kernel_rfl,by kernel_rfl,by kernel_rfl⟩
theorem aql (a:Pu) (ha:Pu.ok a) (b:Pi) (hb:Pi.ok b) (U:Env) (g:ab U 0 [.int .u64,.int .u64,.int .i64,.int .i64]=[.z a.lo,.z a.hi,.z b.lo,.z b.hi]):sT_of.asks aoH (fun U e=>e.D U=iB [.z a.lo,.z a.hi,.z b.lo,.z b.hi]) U fun _ _=>False:=by
 simp only[ab,varD,thm5,Dt.z.injEq,Dt.l.injEq,b2i_eq_iff,Nat.reduceAdd,and_true] at g
 simp only[sT_of,aoH,iB,tS,Tr.asks,ah,okDs,okD,eqs,E.I,E.B,E.L,E.R,E.D,E.vs,E.gs,E.ins,E.sv,E.tn,E.iv,E.zs,E.zr,E.sg,E.tg,E.rg,E.rgs,E.pv,Nat.reduceSub,dI,dB,dL,varD,ab,S1,Nat.reduceAdd,-eq_self,Pi.eta,Pu.eta,g]
 ·rfl
theorem aaS {sp:Spec} {key:Nat} (hF:sp.F key=iB) (hP:sp.pre key=fun _=>True:=by rfl):SmOk Tryz.prog sp (uk key):=
 av (s:=uk key) hF hP (by kernel_rfl) bc (sm0) Tryz.func186 fn0 aqp (.inl rfl) (fun x0 gx0 x1 gx1 x2 gx2 x3 gx3 hp U g=>aql ⟨x0,x1⟩ ⟨gx0,gx1⟩ ⟨x2,x3⟩ ⟨gx2,gx3⟩ U g)
def gZ (key:Nat):Sm:=⟨172,key,[.agg kRg],[.one .bool],false⟩
def gY (a:Rg):List Dt:=[.z (b2i (bmay a))]
def cE:List Dt->List Dt
 | [.z x0,.z x1,.z x2,.z x3]=>gY ⟨x0,x1,x2,x3⟩
 | _=>[]
def sT_may:Tr:=
(.call 0 (kPu) (.vs 0 4 .nil) 4
(.call 2 [.bool] (.vs 4 2 .nil) 6
(.br (.bvar 6)
(.call 1 (kPi) (.vs 0 4 .nil) 7
(.call 3 [.bool] (.vs 7 2 .nil) 9
(.leaf (.consb (.bvar 9) .nil))))
(.leaf (.consb (.tt false) .nil)))))
def ajH:Spec:={F:=fun k=>match k with | 0=>dE | 1=>dG | 2=>nA | 3=>nM | _=>fun _=>[],pre:=fun k=>match k with | _=>fun _=>True}
theorem aow:aq tys_XbA [lg 0,lh 1,wJ 2,wT 3] [] [] [] 200 Tryz.f172 [.agg kRg] [.one .bool] false [.int .u64,.int .u64,.int .i64,.int .i64] sT_may:=⟨by kernel_rfl,by kernel_rfl,by kernel_rfl⟩
set_option linter.defProp false in
def aJ:=And.intro Pi.eta (And.intro Pu.eta (Rg.eta))
theorem aoa (a:Rg) (ha:Rg.ok a) (U:Env) (g:ab U 0 [.int .u64,.int .u64,.int .i64,.int .i64]=[.z a.ul,.z a.uh,.z a.sl,.z a.sh]):sT_may.asks ajH (fun U e=>e.D U=cE [.z a.ul,.z a.uh,.z a.sl,.z a.sh]) U fun _ _=>False:=by
 simp only[ab,varD,thm5,Dt.z.injEq,Dt.l.injEq,b2i_eq_iff,Nat.reduceAdd,and_true] at g
 simp only[sT_may,ajH,kPi,kPu,dE,dG,nA,nM,lc,lf,we,wu,cE,gY,Tr.asks,ah,okDs,okD,eqs,E.I,E.B,E.L,E.R,E.D,E.vs,E.gs,E.ins,E.sv,E.tn,E.iv,E.zs,E.zr,E.sg,E.tg,E.rg,E.rgs,E.pv,Nat.reduceSub,dI,dB,dL,varD,ab,S1,Nat.reduceAdd,-eq_self,aJ,g]
 intro e; (try simp only[e,aJ,-eq_self]); clear e
 intro e; (try simp only[e,aJ,-eq_self]); clear e
 constructor<;>intro c0
 intro e; (try simp only[e,aJ,-eq_self]); clear e
 intro e; (try simp only[e,aJ,-eq_self]); clear e
 ·(unfold bmay; simp_all; try (intros; omega))
 ·(unfold bmay; simp_all; try (intros; omega))
theorem lj {sp:Spec} {key:Nat} (hF:sp.F key=cE) (hP:sp.pre key=fun _=>True:=by rfl):SmOk Tryz.prog sp (gZ key):=
 av (s:=gZ key) hF hP (by kernel_rfl) bc (smc (pd rfl) (smc (pf rfl) (smc (amp rfl) (smc (amy rfl) sm0)))) Tryz.func172 fn0 aow (.inl rfl) (fun x0 gx0 x1 gx1 x2 gx2 x3 gx3 hp U g=>aoa ⟨x0,x1,x2,x3⟩ ⟨gx0,gx1,gx2,gx3⟩ U g)
def dD (key:Nat):Sm:=⟨156,key,[],[.agg kRg],false⟩
def bv:List Dt->List Dt
 | []=>[.z ball.ul,.z ball.uh,.z ball.sl,.z ball.sh]
 | _=>[]
def sT_all:Tr:=
(.call 0 (kRg) (.zs [0,18446744073709551615,-9223372036854775808,9223372036854775807] .nil) 0
(.leaf (.vs 0 4 .nil)))
def ajQ:Spec:={F:=fun k=>match k with | 0=>iB | _=>fun _=>[],pre:=fun k=>match k with | _=>fun _=>True}
theorem aoF:aq tys_XbA [uk 0] [] [] [] 200 Tryz.f156 [] [.agg kRg] false [] sT_all:=⟨by kernel_rfl,by kernel_rfl,by kernel_rfl⟩
theorem aok (U:Env) (g:ab U 0 []=[]):sT_all.asks ajQ (fun U e=>e.D U=bv []) U fun _ _=>False:=by
 simp only[sT_all,ajQ,kRg,iB,tS,bv,Tr.asks,ah,okDs,okD,eqs,E.I,E.B,E.L,E.R,E.D,E.vs,E.gs,E.ins,E.sv,E.tn,E.iv,E.zs,E.zr,E.sg,E.tg,E.rg,E.rgs,E.pv,Nat.reduceSub,dI,dB,dL,varD,ab,S1,Nat.reduceAdd,-eq_self,aJ]
 intro e; (try simp only[e,aJ,-eq_self]); clear e
 ·rfl
theorem eD {sp:Spec} {key:Nat} (hF:sp.F key=bv) (hP:sp.pre key=fun _=>True:=by rfl):SmOk Tryz.prog sp (dD key):=
 av (s:=dD key) hF hP (by kernel_rfl) bc (smc (aaS rfl) sm0) Tryz.func156 fn0 aoF (.inl rfl) (fun hp U g=>aok U g)
def aeD (key:Nat):Sm:=⟨140,key,[.one (.int .u64)],[.agg kRg],false⟩
def adC (v:Int):List Dt:=[.z ((bone v).ul),.z ((bone v).uh),.z ((bone v).sl),.z ((bone v).sh)]
def ux:List Dt->List Dt
 | [.z x0]=>adC x0
 | _=>[]
def sT_one:Tr:=
(.call 0 (kRg) (.cons (.var 0) (.cons (.var 0) (.cons (.conv .i64 (.var 0)) (.cons (.conv .i64 (.var 0)) .nil)))) 1
(.leaf (.vs 1 4 .nil)))
def ajF:Spec:={F:=fun k=>match k with | 0=>iB | _=>fun _=>[],pre:=fun k=>match k with | _=>fun _=>True}
theorem aou:aq tys_XbA [uk 0] [] [] [] 200 Tryz.f140 [.one (.int .u64)] [.agg kRg] false [.int .u64] sT_one:=⟨by kernel_rfl,by kernel_rfl,by kernel_rfl⟩
theorem an8 (v:Int) (hv:inK .u64 v=true) (U:Env) (g:ab U 0 [.int .u64]=[.z v]):sT_one.asks ajF (fun U e=>e.D U=ux [.z v]) U fun _ _=>False:=by
 simp only[ab,varD,thm5,Dt.z.injEq,Dt.l.injEq,b2i_eq_iff,Nat.reduceAdd,and_true] at g
 simp only[sT_one,ajF,kRg,iB,tS,ux,adC,Tr.asks,ah,okDs,okD,eqs,E.I,E.B,E.L,E.R,E.D,E.vs,E.gs,E.ins,E.sv,E.tn,E.iv,E.zs,E.zr,E.sg,E.tg,E.rg,E.rgs,E.pv,Nat.reduceSub,dI,dB,dL,varD,ab,S1,Nat.reduceAdd,-eq_self,aJ,g]
 intro e; (try simp only[e,aJ,-eq_self]); clear e
 ·simp[bone,cb]
theorem aoN {sp:Spec} {key:Nat} (hF:sp.F key=ux) (hP:sp.pre key=fun _=>True:=by rfl):SmOk Tryz.prog sp (aeD key):=
 av (s:=aeD key) hF hP (by kernel_rfl) bc (smc (aaS rfl) sm0) Tryz.func140 fn0 aou (.inl rfl) (fun x0 gx0 hp U g=>an8 x0 gx0 U g)
def aeI (key:Nat):Sm:=⟨109,key,[.agg kRg,.one (.int .u64)],[.one .bool],false⟩
def adH (a:Rg) (v:Int):List Dt:=[.z (b2i (bhas a v))]
def uD:List Dt->List Dt
 | [.z x0,.z x1,.z x2,.z x3,.z x4]=>adH ⟨x0,x1,x2,x3⟩ x4
 | _=>[]
def sT_has:Tr:=
(.call 0 [.bool] (.vs 0 4 .nil) 5
(.br (.bvar 5)
(.call 1 (kPu) (.vs 0 4 .nil) 6
(.call 3 [.bool] (.vs 6 2 (.cons (.var 4) .nil)) 8
(.br (.bvar 8)
(.call 2 (kPi) (.vs 0 4 .nil) 9
(.call 4 [.bool] (.vs 9 2 (.cons (.conv .i64 (.var 4)) .nil)) 11
(.leaf (.consb (.bvar 11) .nil))))
(.leaf (.consb (.tt false) .nil)))))
(.leaf (.consb (.tt false) .nil))))
def ajP:Spec:={F:=fun k=>match k with | 0=>cE | 1=>dE | 2=>dG | 3=>nB | 4=>nN | _=>fun _=>[],pre:=fun k=>match k with | _=>fun _=>True}
theorem aoE:aq tys_XbA [gZ 0,lg 1,lh 2,wK 3,wU 4] [] [] [] 200 Tryz.f109 [.agg kRg,.one (.int .u64)] [.one .bool] false [.int .u64,.int .u64,.int .i64,.int .i64,.int .u64] sT_has:=⟨by kernel_rfl,by kernel_rfl,by kernel_rfl⟩
theorem aoj (a:Rg) (ha:Rg.ok a) (v:Int) (hv:inK .u64 v=true) (U:Env) (g:ab U 0 [.int .u64,.int .u64,.int .i64,.int .i64,.int .u64]=[.z a.ul,.z a.uh,.z a.sl,.z a.sh,.z v]):sT_has.asks ajP (fun U e=>e.D U=uD [.z a.ul,.z a.uh,.z a.sl,.z a.sh,.z v]) U fun _ _=>False:=by
 simp only[ab,varD,thm5,Dt.z.injEq,Dt.l.injEq,b2i_eq_iff,Nat.reduceAdd,and_true] at g
 simp only[sT_has,ajP,kPi,kPu,cE,dE,dG,nB,nN,gY,lc,lf,wg,wv,uD,adH,Tr.asks,ah,okDs,okD,eqs,E.I,E.B,E.L,E.R,E.D,E.vs,E.gs,E.ins,E.sv,E.tn,E.iv,E.zs,E.zr,E.sg,E.tg,E.rg,E.rgs,E.pv,Nat.reduceSub,dI,dB,dL,varD,ab,S1,Nat.reduceAdd,-eq_self,aJ,g]
 intro e; (try simp only[e,aJ,-eq_self]); clear e
 constructor<;>intro c0
 intro e; (try simp only[e,aJ,-eq_self]); clear e
 intro e; (try simp only[e,aJ,-eq_self]); clear e
 constructor<;>intro c1
 intro e; (try simp only[e,aJ,-eq_self]); clear e
 intro e; (try simp only[e,aJ,-eq_self]); clear e
 ·(unfold bhas; simp_all [cb]; try (intros; omega))
 ·(unfold bhas; simp_all [cb]; try (intros; omega))
 ·(unfold bhas; simp_all [cb]; try (intros; omega))
theorem aoU {sp:Spec} {key:Nat} (hF:sp.F key=uD) (hP:sp.pre key=fun _=>True:=by rfl):SmOk Tryz.prog sp (aeI key):=
 av (s:=aeI key) hF hP (by kernel_rfl) bc (smc (lj rfl) (smc (pd rfl) (smc (pf rfl) (smc (amq rfl) (smc (amz rfl) sm0))))) Tryz.func109 fn0 aoE (.inl rfl) (fun x0 gx0 x1 gx1 x2 gx2 x3 gx3 x4 gx4 hp U g=>aoj ⟨x0,x1,x2,x3⟩ ⟨gx0,gx1,gx2,gx3⟩ x4 gx4 U g)
def fN (key:Nat):Sm:=⟨194,key,[.agg kRg],[.one (.int .u64),.one .bool],true⟩
def fL (a:Rg):List Dt:=[.z (aB a),.z (b2i (dQ a))]
def cD:List Dt->List Dt
 | [.z x0,.z x1,.z x2,.z x3]=>fL ⟨x0,x1,x2,x3⟩
 | _=>[]
def sT_single:Tr:=
(.br (.eq (.var 0) (.var 1))
(.call 0 [.bool] (.vs 0 4 (.cons (.var 0) .nil)) 4
(.br (.bvar 4)
(.leaf (.cons (.var 0) (.consb (.tt true) .nil)))
(.leaf (.cons (.lit 0) (.consb (.tt false) .nil)))))
(.leaf (.cons (.lit 0) (.consb (.tt false) .nil))))
def ud:Spec:={F:=fun k=>match k with | 0=>uD | _=>fun _=>[],pre:=fun k=>match k with | _=>fun _=>True}
theorem adR:aq tys_XbA [aeI 0] [] [] [] 200 Tryz.f194 [.agg kRg] [.one (.int .u64),.one .bool] true [.int .u64,.int .u64,.int .i64,.int .i64] sT_single:=⟨by kernel_rfl,by kernel_rfl,by kernel_rfl⟩
theorem adl (a:Rg) (ha:Rg.ok a) (U:Env) (g:ab U 0 [.int .u64,.int .u64,.int .i64,.int .i64]=[.z a.ul,.z a.uh,.z a.sl,.z a.sh]):sT_single.asks ud (fun U e=>e.D U=cD [.z a.ul,.z a.uh,.z a.sl,.z a.sh]) U fun _ _=>False:=by
 simp only[ab,varD,thm5,Dt.z.injEq,Dt.l.injEq,b2i_eq_iff,Nat.reduceAdd,and_true] at g
 simp only[sT_single,ud,uD,adH,cD,fL,Tr.asks,ah,okDs,okD,eqs,E.I,E.B,E.L,E.R,E.D,E.vs,E.gs,E.ins,E.sv,E.tn,E.iv,E.zs,E.zr,E.sg,E.tg,E.rg,E.rgs,E.pv,Nat.reduceSub,dI,dB,dL,varD,ab,S1,Nat.reduceAdd,-eq_self,aJ,g]
 constructor<;>intro c0
 intro e; (try simp only[e,aJ,-eq_self]); clear e
 constructor<;>intro c1
 ·(unfold aB dQ; simp_all)
 ·(unfold aB dQ; simp_all)
 ·(unfold aB dQ; simp_all)
theorem nm {sp:Spec} {key:Nat} (hF:sp.F key=cD) (hP:sp.pre key=fun _=>True:=by rfl):SmOk Tryz.prog sp (fN key):=
 av (s:=fN key) hF hP (by kernel_rfl) bc (smc (aoU rfl) sm0) Tryz.func194 fn0 adR (.inl rfl) (fun x0 gx0 x1 gx1 x2 gx2 x3 gx3 hp U g=>adl ⟨x0,x1,x2,x3⟩ ⟨gx0,gx1,gx2,gx3⟩ U g)
def wS (key:Nat):Sm:=⟨153,key,[.agg kRg,.agg kRg],[.agg kRg],false⟩
def wq (a:Rg) (b:Rg):List Dt:=[.z ((oR a b).ul),.z ((oR a b).uh),.z ((oR a b).sl),.z ((oR a b).sh)]
def nK:List Dt->List Dt
 | [.z x0,.z x1,.z x2,.z x3,.z x4,.z x5,.z x6,.z x7]=>wq ⟨x0,x1,x2,x3⟩ ⟨x4,x5,x6,x7⟩
 | _=>[]
def sT_join:Tr:=
(.call 0 [.bool] (.vs 0 4 .nil) 8
(.br (.bvar 8)
(.call 0 [.bool] (.vs 4 4 .nil) 9
(.br (.bvar 9)
(.call 2 (kPu) (.vs 0 4 .nil) 10
(.call 2 (kPu) (.vs 4 4 .nil) 12
(.call 4 (kPu) (.vs 10 4 .nil) 14
(.call 3 (kPi) (.vs 0 4 .nil) 16
(.call 3 (kPi) (.vs 4 4 .nil) 18
(.call 5 (kPi) (.vs 16 4 .nil) 20
(.call 6 (kRg) (.vs 14 2 (.vs 20 2 .nil)) 22
(.leaf (.vs 22 4 .nil)))))))))
(.call 1 (kRg) .nil 10
(.leaf (.vs 10 4 .nil)))))
(.call 1 (kRg) .nil 9
(.leaf (.vs 9 4 .nil)))))
def aeu:Spec:={F:=fun k=>match k with | 0=>cE | 1=>bv | 2=>dE | 3=>dG | 4=>js | 5=>jz | 6=>iB | _=>fun _=>[],pre:=fun k=>match k with | _=>fun _=>True}
theorem al7:aq tys_XbA [gZ 0,dD 1,lg 2,lh 3,qW 4,rx 5,uk 6] [] [] [] 200 Tryz.f153 [.agg kRg,.agg kRg] [.agg kRg] false [.int .u64,.int .u64,.int .i64,.int .i64,.int .u64,.int .u64,.int .i64,.int .i64] sT_join:=⟨by kernel_rfl,by kernel_rfl,by kernel_rfl⟩
theorem alr (a:Rg) (ha:Rg.ok a) (b:Rg) (hb:Rg.ok b) (U:Env) (g:ab U 0 [.int .u64,.int .u64,.int .i64,.int .i64,.int .u64,.int .u64,.int .i64,.int .i64]=[.z a.ul,.z a.uh,.z a.sl,.z a.sh,.z b.ul,.z b.uh,.z b.sl,.z b.sh]):sT_join.asks aeu (fun U e=>e.D U=nK [.z a.ul,.z a.uh,.z a.sl,.z a.sh,.z b.ul,.z b.uh,.z b.sl,.z b.sh]) U fun _ _=>False:=by
 simp only[ab,varD,thm5,Dt.z.injEq,Dt.l.injEq,b2i_eq_iff,Nat.reduceAdd,and_true] at g
 simp only[sT_join,aeu,kPi,kPu,kRg,cE,bv,dE,dG,js,jz,iB,gY,lc,lf,qu,qJ,tS,nK,wq,Tr.asks,ah,okDs,okD,eqs,E.I,E.B,E.L,E.R,E.D,E.vs,E.gs,E.ins,E.sv,E.tn,E.iv,E.zs,E.zr,E.sg,E.tg,E.rg,E.rgs,E.pv,Nat.reduceSub,dI,dB,dL,varD,ab,S1,Nat.reduceAdd,-eq_self,aJ,g]
 intro e; (try simp only[e,aJ,-eq_self]); clear e
 constructor<;>intro c0
 intro e; (try simp only[e,aJ,-eq_self]); clear e
 constructor<;>intro c1
 intro e; (try simp only[e,aJ,-eq_self]); clear e
 intro e; (try simp only[e,aJ,-eq_self]); clear e
 intro e; (try simp only[e,aJ,-eq_self]); clear e
 intro e; (try simp only[e,aJ,-eq_self]); clear e
 intro e; (try simp only[e,aJ,-eq_self]); clear e
 intro e; (try simp only[e,aJ,-eq_self]); clear e
 intro e; (try simp only[e,aJ,-eq_self]); clear e
 ·(unfold oR; simp_all [aaq])
 intro e; (try simp only[e,aJ,-eq_self]); clear e
 ·(unfold oR; simp_all [aaq])
 intro e; (try simp only[e,aJ,-eq_self]); clear e
 ·(unfold oR; simp_all [aaq])
theorem amx {sp:Spec} {key:Nat} (hF:sp.F key=nK) (hP:sp.pre key=fun _=>True:=by rfl):SmOk Tryz.prog sp (wS key):=
 av (s:=wS key) hF hP (by kernel_rfl) bc (smc (lj rfl) (smc (eD rfl) (smc (pd rfl) (smc (pf rfl) (smc (aiq rfl) (smc (aiy rfl) (smc (aaS rfl) sm0))))))) Tryz.func153 fn0 al7 (.inl rfl) (fun x0 gx0 x1 gx1 x2 gx2 x3 gx3 x4 gx4 x5 gx5 x6 gx6 x7 gx7 hp U g=>alr ⟨x0,x1,x2,x3⟩ ⟨gx0,gx1,gx2,gx3⟩ ⟨x4,x5,x6,x7⟩ ⟨gx4,gx5,gx6,gx7⟩ U g)
end Go.Proofs.YtfkhblmeioiciaaGreatDoor
