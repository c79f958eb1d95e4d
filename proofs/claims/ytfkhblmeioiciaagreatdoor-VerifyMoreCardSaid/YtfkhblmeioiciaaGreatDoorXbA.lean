import Derived.Test.YtfkhblmeioiciaaGreatDoorSyZe
import Derived.Test.YtfkhblmeioiciaaGreatDoorBdZ
import Derived.Test.YtfkhblmeioiciaaGreatDoorProg
import Derived.Laws.Externs
set_option maxRecDepth 100000
set_option maxHeartbeats 8000000
set_option linter.defProp false
set_option linter.unusedVariables false
set_option linter.unusedSimpArgs false
namespace Go.Proofs.YtfkhblmeioiciaaGreatDoor
open Go.RowKit Go.ChangeShapes Go.WideShapes
structure Pu where
 lo:Int
 hi:Int
structure Pi where
 lo:Int
 hi:Int
theorem Rg.eta (a:Rg):(⟨a.ul,a.uh,a.sl,a.sh⟩:Rg)=a:=rfl
def Rg.ok (a:Rg):Prop:=inK .u64 a.ul=true/\inK .u64 a.uh=true/\inK .i64 a.sl=true/\inK .i64 a.sh=true
def kRg:List CK:=[.int .u64,.int .u64,.int .i64,.int .i64]
theorem Pu.eta (a:Pu):(⟨a.lo,a.hi⟩:Pu)=a:=rfl
def Pu.ok (a:Pu):Prop:=inK .u64 a.lo=true/\inK .u64 a.hi=true
def kPu:List CK:=[.int .u64,.int .u64]
theorem Pi.eta (a:Pi):(⟨a.lo,a.hi⟩:Pi)=a:=rfl
def Pi.ok (a:Pi):Prop:=inK .i64 a.lo=true/\inK .i64 a.hi=true
def kPi:List CK:=[.int .i64,.int .i64]
def tys_XbA:List (Nat×TI):=[(2,tiq2),
 (42,fP),
 (44,ic),
 (209,ac4),
 (213,ac3)]
theorem acH:(tys_XbA.all fun p=>ckTI Tryz.prog p.1 p.2)=true:=by kernel_rfl
theorem tv:(tys_XbA.all fun p=>!p.2.eqok)=true:=by kernel_rfl
theorem acn:(tys_XbA.all fun p=>!p.2.keyok)=true:=by kernel_rfl
theorem bc:∀t i,(t,i)∈tys_XbA->TIok Tryz.prog t i:=by
 intro t i h
 refine bE (cC (f:=ckTI Tryz.prog) acH h) (fun he=> ?_) (fun he=> ?_) (fun he=> ?_)
 ·have h1:=thm7.1 tv (t,i) h
  simp[he] at h1
 ·have h1:=thm7.1 tv (t,i) h
  simp[he] at h1
 ·have h1:=thm7.1 acn (t,i) h
  simp[he] at h1
def lC (key:Nat):Sm:=⟨174,key,[.agg kRg],[.agg kPu],false⟩
def lA (a:Rg):List Dt:=[.z (((⟨a.ul,a.uh⟩:Pu)).lo),.z (((⟨a.ul,a.uh⟩:Pu)).hi)]
def dJ:List Dt->List Dt
 | [.z x0,.z x1,.z x2,.z x3]=>lA ⟨x0,x1,x2,x3⟩
 | _=>[]
def sT_uns:Tr:=
(.leaf (.vs 0 2 .nil))
def akh:Spec:={F:=fun k=>match k with | _=>fun _=>[],pre:=fun _ _=>True}
theorem apN:ap tys_XbA [] [] [] [] 200 Tryz.f174 [.agg kRg] [.agg kPu] false [.int .u64,.int .u64,.int .i64,.int .i64] sT_uns:=⟨by kernel_rfl,by kernel_rfl,by kernel_rfl⟩
theorem apr (a:Rg) (ha:Rg.ok a) (U:Env) (g:varsD U 0 [.int .u64,.int .u64,.int .i64,.int .i64]=[.z a.ul,.z a.uh,.z a.sl,.z a.sh]):sT_uns.asks akh (fun U e=>e.D U=dJ [.z a.ul,.z a.uh,.z a.sl,.z a.sh]) U fun _ _=>False:=by
 simp only[varsD,varD,thm5,gS0,Nat.reduceAdd,and_true] at g
 simp only[sT_uns,akh,dJ,lA,simQ,af,S1,Nat.reduceSub,Nat.reduceAdd,-eq_self,Rg.eta,g]
 ·rfl
theorem mxo8:Tryz.prog.follows .mixedOrders=true:=by kernel_rfl
theorem pq {sp:Spec} {key:Nat} (hF:sp.F key=dJ) (hP:sp.pre key=fun _=>True:=by rfl):SmOk Tryz.prog sp (lC key):=
 au (s:=lC key) hF hP mxo8 bc (sm0) Tryz.func174 fn0 apN (.inl rfl) (fun x0 gx0 x1 gx1 x2 gx2 x3 gx3 hp U g=>apr ⟨x0,x1,x2,x3⟩ ⟨gx0,gx1,gx2,gx3⟩ U g)
def lD (key:Nat):Sm:=⟨176,key,[.agg kRg],[.agg kPi],false⟩
def lB (a:Rg):List Dt:=[.z (((⟨a.sl,a.sh⟩:Pi)).lo),.z (((⟨a.sl,a.sh⟩:Pi)).hi)]
def dM:List Dt->List Dt
 | [.z x0,.z x1,.z x2,.z x3]=>lB ⟨x0,x1,x2,x3⟩
 | _=>[]
def sT_sig:Tr:=
(.leaf (.vs 2 2 .nil))
def akj:Spec:={F:=fun k=>match k with | _=>fun _=>[],pre:=fun _ _=>True}
theorem apP:ap tys_XbA [] [] [] [] 200 Tryz.f176 [.agg kRg] [.agg kPi] false [.int .u64,.int .u64,.int .i64,.int .i64] sT_sig:=⟨by kernel_rfl,by kernel_rfl,by kernel_rfl⟩
theorem apt (a:Rg) (ha:Rg.ok a) (U:Env) (g:varsD U 0 [.int .u64,.int .u64,.int .i64,.int .i64]=[.z a.ul,.z a.uh,.z a.sl,.z a.sh]):sT_sig.asks akj (fun U e=>e.D U=dM [.z a.ul,.z a.uh,.z a.sl,.z a.sh]) U fun _ _=>False:=by
 simp only[varsD,varD,thm5,gS0,Nat.reduceAdd,and_true] at g
 simp only[sT_sig,akj,dM,lB,simQ,af,S1,Nat.reduceSub,Nat.reduceAdd,-eq_self,Rg.eta,g]
 ·rfl
theorem pt {sp:Spec} {key:Nat} (hF:sp.F key=dM) (hP:sp.pre key=fun _=>True:=by rfl):SmOk Tryz.prog sp (lD key):=
 au (s:=lD key) hF hP mxo8 bc (sm0) Tryz.func176 fn0 apP (.inl rfl) (fun x0 gx0 x1 gx1 x2 gx2 x3 gx3 hp U g=>apt ⟨x0,x1,x2,x3⟩ ⟨gx0,gx1,gx2,gx3⟩ U g)
def xg (key:Nat):Sm:=⟨219,key,[.agg kPu],[.one .bool],false⟩
def wH (a:Pu):List Dt:=[.z (b2i (decide (a.lo<=a.hi)))]
def nM:List Dt->List Dt
 | [.z x0,.z x1]=>wH ⟨x0,x1⟩
 | _=>[]
def sT_umay:Tr:=
(.leaf (.cb (.not (.lt (.var 1) (.var 0))) .nil))
def aez:Spec:={F:=fun k=>match k with | _=>fun _=>[],pre:=fun _ _=>True}
theorem am7:ap tys_XbA [] [] [] [] 200 Tryz.f219 [.agg kPu] [.one .bool] false [.int .u64,.int .u64] sT_umay:=⟨by kernel_rfl,by kernel_rfl,by kernel_rfl⟩
theorem amr (a:Pu) (ha:Pu.ok a) (U:Env) (g:varsD U 0 [.int .u64,.int .u64]=[.z a.lo,.z a.hi]):sT_umay.asks aez (fun U e=>e.D U=nM [.z a.lo,.z a.hi]) U fun _ _=>False:=by
 simp only[varsD,varD,thm5,gS0,Nat.reduceAdd,and_true] at g
 simp only[sT_umay,aez,nM,wH,simQ,af,S1,Nat.reduceSub,Nat.reduceAdd,-eq_self,Pu.eta,g]
 ·simp[bV]
theorem anL {sp:Spec} {key:Nat} (hF:sp.F key=nM) (hP:sp.pre key=fun _=>True:=by rfl):SmOk Tryz.prog sp (xg key):=
 au (s:=xg key) hF hP mxo8 bc (sm0) Tryz.func219 fn0 am7 (.inl rfl) (fun x0 gx0 x1 gx1 hp U g=>amr ⟨x0,x1⟩ ⟨gx0,gx1⟩ U g)
def xr (key:Nat):Sm:=⟨220,key,[.agg kPi],[.one .bool],false⟩
def wR (a:Pi):List Dt:=[.z (b2i (decide (a.lo<=a.hi)))]
def nZ:List Dt->List Dt
 | [.z x0,.z x1]=>wR ⟨x0,x1⟩
 | _=>[]
def sT_imay:Tr:=
(.leaf (.cb (.not (.lt (.var 1) (.var 0))) .nil))
def aeV:Spec:={F:=fun k=>match k with | _=>fun _=>[],pre:=fun _ _=>True}
theorem anu:ap tys_XbA [] [] [] [] 200 Tryz.f220 [.agg kPi] [.one .bool] false [.int .i64,.int .i64] sT_imay:=⟨by kernel_rfl,by kernel_rfl,by kernel_rfl⟩
theorem amN (a:Pi) (ha:Pi.ok a) (U:Env) (g:varsD U 0 [.int .i64,.int .i64]=[.z a.lo,.z a.hi]):sT_imay.asks aeV (fun U e=>e.D U=nZ [.z a.lo,.z a.hi]) U fun _ _=>False:=by
 simp only[varsD,varD,thm5,gS0,Nat.reduceAdd,and_true] at g
 simp only[sT_imay,aeV,nZ,wR,simQ,af,S1,Nat.reduceSub,Nat.reduceAdd,-eq_self,Pi.eta,g]
 ·simp[bV]
theorem anU {sp:Spec} {key:Nat} (hF:sp.F key=nZ) (hP:sp.pre key=fun _=>True:=by rfl):SmOk Tryz.prog sp (xr key):=
 au (s:=xr key) hF hP mxo8 bc (sm0) Tryz.func220 fn0 anu (.inl rfl) (fun x0 gx0 x1 gx1 hp U g=>amN ⟨x0,x1⟩ ⟨gx0,gx1⟩ U g)
def xh (key:Nat):Sm:=⟨175,key,[.agg kPu,.one (.int .u64)],[.one .bool],false⟩
def wI (a:Pu) (v:Int):List Dt:=[.z (b2i ((decide (a.lo<=v)&&decide (v<=a.hi))))]
def nN:List Dt->List Dt
 | [.z x0,.z x1,.z x2]=>wI ⟨x0,x1⟩ x2
 | _=>[]
def sT_uhas:Tr:=
(.br (.lt (.var 2) (.var 0))
(.leaf (.cb (.tt false) .nil))
(.leaf (.cb (.not (.lt (.var 1) (.var 2))) .nil)))
def aeA:Spec:={F:=fun k=>match k with | _=>fun _=>[],pre:=fun _ _=>True}
theorem am8:ap tys_XbA [] [] [] [] 200 Tryz.f175 [.agg kPu,.one (.int .u64)] [.one .bool] false [.int .u64,.int .u64,.int .u64] sT_uhas:=⟨by kernel_rfl,by kernel_rfl,by kernel_rfl⟩
theorem ams (a:Pu) (ha:Pu.ok a) (v:Int) (hv:inK .u64 v=true) (U:Env) (g:varsD U 0 [.int .u64,.int .u64,.int .u64]=[.z a.lo,.z a.hi,.z v]):sT_uhas.asks aeA (fun U e=>e.D U=nN [.z a.lo,.z a.hi,.z v]) U fun _ _=>False:=by
 simp only[varsD,varD,thm5,gS0,Nat.reduceAdd,and_true] at g
 simp only[sT_uhas,aeA,nN,wI,simQ,af,S1,Nat.reduceSub,Nat.reduceAdd,-eq_self,Pu.eta,g]
 constructor<;>intro c0
 ·simp_all [bV]
 ·simp_all [bV]
theorem anM {sp:Spec} {key:Nat} (hF:sp.F key=nN) (hP:sp.pre key=fun _=>True:=by rfl):SmOk Tryz.prog sp (xh key):=
 au (s:=xh key) hF hP mxo8 bc (sm0) Tryz.func175 fn0 am8 (.inl rfl) (fun x0 gx0 x1 gx1 x2 gx2 hp U g=>ams ⟨x0,x1⟩ ⟨gx0,gx1⟩ x2 gx2 U g)
def xu (key:Nat):Sm:=⟨177,key,[.agg kPi,.one (.int .i64)],[.one .bool],false⟩
def wS (a:Pi) (v:Int):List Dt:=[.z (b2i ((decide (a.lo<=v)&&decide (v<=a.hi))))]
def oa:List Dt->List Dt
 | [.z x0,.z x1,.z x2]=>wS ⟨x0,x1⟩ x2
 | _=>[]
def sT_ihas:Tr:=
(.br (.lt (.var 2) (.var 0))
(.leaf (.cb (.tt false) .nil))
(.leaf (.cb (.not (.lt (.var 1) (.var 2))) .nil)))
def aeW:Spec:={F:=fun k=>match k with | _=>fun _=>[],pre:=fun _ _=>True}
theorem anv:ap tys_XbA [] [] [] [] 200 Tryz.f177 [.agg kPi,.one (.int .i64)] [.one .bool] false [.int .i64,.int .i64,.int .i64] sT_ihas:=⟨by kernel_rfl,by kernel_rfl,by kernel_rfl⟩
theorem amO (a:Pi) (ha:Pi.ok a) (v:Int) (hv:inK .i64 v=true) (U:Env) (g:varsD U 0 [.int .i64,.int .i64,.int .i64]=[.z a.lo,.z a.hi,.z v]):sT_ihas.asks aeW (fun U e=>e.D U=oa [.z a.lo,.z a.hi,.z v]) U fun _ _=>False:=by
 simp only[varsD,varD,thm5,gS0,Nat.reduceAdd,and_true] at g
 simp only[sT_ihas,aeW,oa,wS,simQ,af,S1,Nat.reduceSub,Nat.reduceAdd,-eq_self,Pi.eta,g]
 constructor<;>intro c0
 ·simp_all [bV]
 ·simp_all [bV]
theorem anV {sp:Spec} {key:Nat} (hF:sp.F key=oa) (hP:sp.pre key=fun _=>True:=by rfl):SmOk Tryz.prog sp (xu key):=
 au (s:=xu key) hF hP mxo8 bc (sm0) Tryz.func177 fn0 anv (.inl rfl) (fun x0 gx0 x1 gx1 x2 gx2 hp U g=>amO ⟨x0,x1⟩ ⟨gx0,gx1⟩ x2 gx2 U g)
def mf (key:Nat):Sm:=⟨236,key,[.agg kPu,.agg kPu],[.agg kPu],false⟩
def lY (a:Pu) (b:Pu):List Dt:=[.z (((⟨max a.lo b.lo,min a.hi b.hi⟩:Pu)).lo),.z (((⟨max a.lo b.lo,min a.hi b.hi⟩:Pu)).hi)]
def fu:List Dt->List Dt
 | [.z x0,.z x1,.z x2,.z x3]=>lY ⟨x0,x1⟩ ⟨x2,x3⟩
 | _=>[]
def sT_umeet:Tr:=
(.leaf (.cons (.mx (.var 0) (.var 2)) (.cons (.mn (.var 1) (.var 3)) .nil)))
def zh:Spec:={F:=fun k=>match k with | _=>fun _=>[],pre:=fun _ _=>True}
theorem aiB:ap tys_XbA [] [] [] [] 200 Tryz.f236 [.agg kPu,.agg kPu] [.agg kPu] false [.int .u64,.int .u64,.int .u64,.int .u64] sT_umeet:=⟨by kernel_rfl,by kernel_rfl,by kernel_rfl⟩
theorem ah7 (a:Pu) (ha:Pu.ok a) (b:Pu) (hb:Pu.ok b) (U:Env) (g:varsD U 0 [.int .u64,.int .u64,.int .u64,.int .u64]=[.z a.lo,.z a.hi,.z b.lo,.z b.hi]):sT_umeet.asks zh (fun U e=>e.D U=fu [.z a.lo,.z a.hi,.z b.lo,.z b.hi]) U fun _ _=>False:=by
 simp only[varsD,varD,thm5,gS0,Nat.reduceAdd,and_true] at g
 simp only[sT_umeet,zh,fu,lY,simQ,af,S1,Nat.reduceSub,Nat.reduceAdd,-eq_self,Pu.eta,g]
 ·rfl
theorem zE {sp:Spec} {key:Nat} (hF:sp.F key=fu) (hP:sp.pre key=fun _=>True:=by rfl):SmOk Tryz.prog sp (mf key):=
 au (s:=mf key) hF hP mxo8 bc (sm0) Tryz.func236 fn0 aiB (.inl rfl) (fun x0 gx0 x1 gx1 x2 gx2 x3 gx3 hp U g=>ah7 ⟨x0,x1⟩ ⟨gx0,gx1⟩ ⟨x2,x3⟩ ⟨gx2,gx3⟩ U g)
def rv (key:Nat):Sm:=⟨204,key,[.agg kPu,.agg kPu],[.agg kPu],false⟩
def qL (a:Pu) (b:Pu):List Dt:=[.z (((⟨min a.lo b.lo,max a.hi b.hi⟩:Pu)).lo),.z (((⟨min a.lo b.lo,max a.hi b.hi⟩:Pu)).hi)]
def jG:List Dt->List Dt
 | [.z x0,.z x1,.z x2,.z x3]=>qL ⟨x0,x1⟩ ⟨x2,x3⟩
 | _=>[]
def sT_ujoin:Tr:=
(.leaf (.cons (.mn (.var 0) (.var 2)) (.cons (.mx (.var 1) (.var 3)) .nil)))
def zi:Spec:={F:=fun k=>match k with | _=>fun _=>[],pre:=fun _ _=>True}
theorem aiC:ap tys_XbA [] [] [] [] 200 Tryz.f204 [.agg kPu,.agg kPu] [.agg kPu] false [.int .u64,.int .u64,.int .u64,.int .u64] sT_ujoin:=⟨by kernel_rfl,by kernel_rfl,by kernel_rfl⟩
theorem ah8 (a:Pu) (ha:Pu.ok a) (b:Pu) (hb:Pu.ok b) (U:Env) (g:varsD U 0 [.int .u64,.int .u64,.int .u64,.int .u64]=[.z a.lo,.z a.hi,.z b.lo,.z b.hi]):sT_ujoin.asks zi (fun U e=>e.D U=jG [.z a.lo,.z a.hi,.z b.lo,.z b.hi]) U fun _ _=>False:=by
 simp only[varsD,varD,thm5,gS0,Nat.reduceAdd,and_true] at g
 simp only[sT_ujoin,zi,jG,qL,simQ,af,S1,Nat.reduceSub,Nat.reduceAdd,-eq_self,Pu.eta,g]
 ·rfl
theorem ai2 {sp:Spec} {key:Nat} (hF:sp.F key=jG) (hP:sp.pre key=fun _=>True:=by rfl):SmOk Tryz.prog sp (rv key):=
 au (s:=rv key) hF hP mxo8 bc (sm0) Tryz.func204 fn0 aiC (.inl rfl) (fun x0 gx0 x1 gx1 x2 gx2 x3 gx3 hp U g=>ah8 ⟨x0,x1⟩ ⟨gx0,gx1⟩ ⟨x2,x3⟩ ⟨gx2,gx3⟩ U g)
def mi (key:Nat):Sm:=⟨237,key,[.agg kPi,.agg kPi],[.agg kPi],false⟩
def me (a:Pi) (b:Pi):List Dt:=[.z (((⟨max a.lo b.lo,min a.hi b.hi⟩:Pi)).lo),.z (((⟨max a.lo b.lo,min a.hi b.hi⟩:Pi)).hi)]
def fz:List Dt->List Dt
 | [.z x0,.z x1,.z x2,.z x3]=>me ⟨x0,x1⟩ ⟨x2,x3⟩
 | _=>[]
def sT_imeet:Tr:=
(.leaf (.cons (.mx (.var 0) (.var 2)) (.cons (.mn (.var 1) (.var 3)) .nil)))
def zw:Spec:={F:=fun k=>match k with | _=>fun _=>[],pre:=fun _ _=>True}
theorem aiO:ap tys_XbA [] [] [] [] 200 Tryz.f237 [.agg kPi,.agg kPi] [.agg kPi] false [.int .i64,.int .i64,.int .i64,.int .i64] sT_imeet:=⟨by kernel_rfl,by kernel_rfl,by kernel_rfl⟩
theorem aik (a:Pi) (ha:Pi.ok a) (b:Pi) (hb:Pi.ok b) (U:Env) (g:varsD U 0 [.int .i64,.int .i64,.int .i64,.int .i64]=[.z a.lo,.z a.hi,.z b.lo,.z b.hi]):sT_imeet.asks zw (fun U e=>e.D U=fz [.z a.lo,.z a.hi,.z b.lo,.z b.hi]) U fun _ _=>False:=by
 simp only[varsD,varD,thm5,gS0,Nat.reduceAdd,and_true] at g
 simp only[sT_imeet,zw,fz,me,simQ,af,S1,Nat.reduceSub,Nat.reduceAdd,-eq_self,Pi.eta,g]
 ·rfl
theorem zH {sp:Spec} {key:Nat} (hF:sp.F key=fz) (hP:sp.pre key=fun _=>True:=by rfl):SmOk Tryz.prog sp (mi key):=
 au (s:=mi key) hF hP mxo8 bc (sm0) Tryz.func237 fn0 aiO (.inl rfl) (fun x0 gx0 x1 gx1 x2 gx2 x3 gx3 hp U g=>aik ⟨x0,x1⟩ ⟨gx0,gx1⟩ ⟨x2,x3⟩ ⟨gx2,gx3⟩ U g)
def rP (key:Nat):Sm:=⟨205,key,[.agg kPi,.agg kPi],[.agg kPi],false⟩
def qZ (a:Pi) (b:Pi):List Dt:=[.z (((⟨min a.lo b.lo,max a.hi b.hi⟩:Pi)).lo),.z (((⟨min a.lo b.lo,max a.hi b.hi⟩:Pi)).hi)]
def jN:List Dt->List Dt
 | [.z x0,.z x1,.z x2,.z x3]=>qZ ⟨x0,x1⟩ ⟨x2,x3⟩
 | _=>[]
def sT_ijoin:Tr:=
(.leaf (.cons (.mn (.var 0) (.var 2)) (.cons (.mx (.var 1) (.var 3)) .nil)))
def zx:Spec:={F:=fun k=>match k with | _=>fun _=>[],pre:=fun _ _=>True}
theorem aiP:ap tys_XbA [] [] [] [] 200 Tryz.f205 [.agg kPi,.agg kPi] [.agg kPi] false [.int .i64,.int .i64,.int .i64,.int .i64] sT_ijoin:=⟨by kernel_rfl,by kernel_rfl,by kernel_rfl⟩
theorem ail (a:Pi) (ha:Pi.ok a) (b:Pi) (hb:Pi.ok b) (U:Env) (g:varsD U 0 [.int .i64,.int .i64,.int .i64,.int .i64]=[.z a.lo,.z a.hi,.z b.lo,.z b.hi]):sT_ijoin.asks zx (fun U e=>e.D U=jN [.z a.lo,.z a.hi,.z b.lo,.z b.hi]) U fun _ _=>False:=by
 simp only[varsD,varD,thm5,gS0,Nat.reduceAdd,and_true] at g
 simp only[sT_ijoin,zx,jN,qZ,simQ,af,S1,Nat.reduceSub,Nat.reduceAdd,-eq_self,Pi.eta,g]
 ·rfl
theorem aja {sp:Spec} {key:Nat} (hF:sp.F key=jN) (hP:sp.pre key=fun _=>True:=by rfl):SmOk Tryz.prog sp (rP key):=
 au (s:=rP key) hF hP mxo8 bc (sm0) Tryz.func205 fn0 aiP (.inl rfl) (fun x0 gx0 x1 gx1 x2 gx2 x3 gx3 hp U g=>ail ⟨x0,x1⟩ ⟨gx0,gx1⟩ ⟨x2,x3⟩ ⟨gx2,gx3⟩ U g)
def uL (key:Nat):Sm:=⟨186,key,[.agg kPu,.agg kPi],[.agg kRg],false⟩
def uq (a:Pu) (b:Pi):List Dt:=[.z (((⟨a.lo,a.hi,b.lo,b.hi⟩:Rg)).ul),.z (((⟨a.lo,a.hi,b.lo,b.hi⟩:Rg)).uh),.z (((⟨a.lo,a.hi,b.lo,b.hi⟩:Rg)).sl),.z (((⟨a.lo,a.hi,b.lo,b.hi⟩:Rg)).sh)]
def iS:List Dt->List Dt
 | [.z x0,.z x1,.z x2,.z x3]=>uq ⟨x0,x1⟩ ⟨x2,x3⟩
 | _=>[]
def sT_of:Tr:=
(.leaf (.vs 0 4 .nil))
def ap3:Spec:={F:=fun k=>match k with | _=>fun _=>[],pre:=fun _ _=>True}
theorem arK:ap tys_XbA [] [] [] [] 200 Tryz.f186 [.agg kPu,.agg kPi] [.agg kRg] false [.int .u64,.int .u64,.int .i64,.int .i64] sT_of:=⟨by kernel_rfl,by kernel_rfl,by kernel_rfl⟩
theorem arG (a:Pu) (ha:Pu.ok a) (b:Pi) (hb:Pi.ok b) (U:Env) (g:varsD U 0 [.int .u64,.int .u64,.int .i64,.int .i64]=[.z a.lo,.z a.hi,.z b.lo,.z b.hi]):sT_of.asks ap3 (fun U e=>e.D U=iS [.z a.lo,.z a.hi,.z b.lo,.z b.hi]) U fun _ _=>False:=by
 simp only[varsD,varD,thm5,gS0,Nat.reduceAdd,and_true] at g
 simp only[sT_of,ap3,iS,uq,simQ,af,S1,Nat.reduceSub,Nat.reduceAdd,-eq_self,Pi.eta,Pu.eta,g]
 ·rfl
theorem aba {sp:Spec} {key:Nat} (hF:sp.F key=iS) (hP:sp.pre key=fun _=>True:=by rfl):SmOk Tryz.prog sp (uL key):=
 au (s:=uL key) hF hP mxo8 bc (sm0) Tryz.func186 fn0 arK (.inl rfl) (fun x0 gx0 x1 gx1 x2 gx2 x3 gx3 hp U g=>arG ⟨x0,x1⟩ ⟨gx0,gx1⟩ ⟨x2,x3⟩ ⟨gx2,gx3⟩ U g)
def ir (key:Nat):Sm:=⟨172,key,[.agg kRg],[.one .bool],false⟩
def iq (a:Rg):List Dt:=[.z (b2i (bmay a))]
def cF:List Dt->List Dt
 | [.z x0,.z x1,.z x2,.z x3]=>iq ⟨x0,x1,x2,x3⟩
 | _=>[]
def sT_may:Tr:=
(.call 0 (kPu) (.vs 0 4 .nil) 4
(.call 2 [.bool] (.vs 4 2 .nil) 6
(.br (.bw 6)
(.call 1 (kPi) (.vs 0 4 .nil) 7
(.call 3 [.bool] (.vs 7 2 .nil) 9
(.leaf (.cb (.bw 9) .nil))))
(.leaf (.cb (.tt false) .nil)))))
def akm:Spec:={F:=fun k=>match k with | 0=>dJ | 1=>dM | 2=>nM | 3=>nZ | _=>fun _=>[],pre:=fun _ _=>True}
theorem apS:ap tys_XbA [lC 0,lD 1,xg 2,xr 3] [] [] [] 200 Tryz.f172 [.agg kRg] [.one .bool] false [.int .u64,.int .u64,.int .i64,.int .i64] sT_may:=⟨by kernel_rfl,by kernel_rfl,by kernel_rfl⟩
def aH:=And.intro Pi.eta (And.intro Pu.eta (Rg.eta))
theorem apw (a:Rg) (ha:Rg.ok a) (U:Env) (g:varsD U 0 [.int .u64,.int .u64,.int .i64,.int .i64]=[.z a.ul,.z a.uh,.z a.sl,.z a.sh]):sT_may.asks akm (fun U e=>e.D U=cF [.z a.ul,.z a.uh,.z a.sl,.z a.sh]) U fun _ _=>False:=by
 simp only[varsD,varD,thm5,gS0,Nat.reduceAdd,and_true] at g
 simp only[sT_may,akm,kPi,kPu,dJ,dM,nM,nZ,lA,lB,wH,wR,cF,iq,simQ,af,S1,Nat.reduceSub,Nat.reduceAdd,-eq_self,aH,g]
 intro e;(try simp only[e,aH,-eq_self]);clear e
 intro e;(try simp only[e,aH,-eq_self]);clear e
 constructor<;>intro c0
 intro e;(try simp only[e,aH,-eq_self]);clear e
 intro e;(try simp only[e,aH,-eq_self]);clear e
 ·(unfold bmay;simp_all;try (intros;omega))
 ·(unfold bmay;simp_all;try (intros;omega))
theorem lE {sp:Spec} {key:Nat} (hF:sp.F key=cF) (hP:sp.pre key=fun _=>True:=by rfl):SmOk Tryz.prog sp (ir key):=
 au (s:=ir key) hF hP mxo8 bc (smc (pq rfl) (smc (pt rfl) (smc (anL rfl) (smc (anU rfl) sm0)))) Tryz.func172 fn0 apS (.inl rfl) (fun x0 gx0 x1 gx1 x2 gx2 x3 gx3 hp U g=>apw ⟨x0,x1,x2,x3⟩ ⟨gx0,gx1,gx2,gx3⟩ U g)
def dH (key:Nat):Sm:=⟨156,key,[],[.agg kRg],false⟩
def bv:List Dt->List Dt
 | []=>[.z ball.ul,.z ball.uh,.z ball.sl,.z ball.sh]
 | _=>[]
def sT_all:Tr:=
(.call 0 (kRg) (.zs [0,18446744073709551615,-9223372036854775808,9223372036854775807] .nil) 0
(.leaf (.vs 0 4 .nil)))
def akv:Spec:={F:=fun k=>match k with | 0=>iS | _=>fun _=>[],pre:=fun _ _=>True}
theorem ap1:ap tys_XbA [uL 0] [] [] [] 200 Tryz.f156 [] [.agg kRg] false [] sT_all:=⟨by kernel_rfl,by kernel_rfl,by kernel_rfl⟩
theorem apG (U:Env) (g:varsD U 0 []=[]):sT_all.asks akv (fun U e=>e.D U=bv []) U fun _ _=>False:=by
 simp only[sT_all,akv,kRg,iS,uq,bv,simQ,af,S1,Nat.reduceSub,Nat.reduceAdd,-eq_self,aH]
 intro e;(try simp only[e,aH,-eq_self]);clear e
 ·rfl
theorem eU {sp:Spec} {key:Nat} (hF:sp.F key=bv) (hP:sp.pre key=fun _=>True:=by rfl):SmOk Tryz.prog sp (dH key):=
 au (s:=dH key) hF hP mxo8 bc (smc (aba rfl) sm0) Tryz.func156 fn0 ap1 (.inl rfl) (fun hp U g=>apG U g)
def ae3 (key:Nat):Sm:=⟨140,key,[.one (.int .u64)],[.agg kRg],false⟩
def ad0 (v:Int):List Dt:=[.z ((bone v).ul),.z ((bone v).uh),.z ((bone v).sl),.z ((bone v).sh)]
def uT:List Dt->List Dt
 | [.z x0]=>ad0 x0
 | _=>[]
def sT_one:Tr:=
(.call 0 (kRg) (.cons (.var 0) (.cons (.var 0) (.cons (.conv .i64 (.var 0)) (.cons (.conv .i64 (.var 0)) .nil)))) 1
(.leaf (.vs 1 4 .nil)))
def akk:Spec:={F:=fun k=>match k with | 0=>iS | _=>fun _=>[],pre:=fun _ _=>True}
theorem apQ:ap tys_XbA [uL 0] [] [] [] 200 Tryz.f140 [.one (.int .u64)] [.agg kRg] false [.int .u64] sT_one:=⟨by kernel_rfl,by kernel_rfl,by kernel_rfl⟩
theorem apu (v:Int) (hv:inK .u64 v=true) (U:Env) (g:varsD U 0 [.int .u64]=[.z v]):sT_one.asks akk (fun U e=>e.D U=uT [.z v]) U fun _ _=>False:=by
 simp only[varsD,varD,thm5,gS0,Nat.reduceAdd,and_true] at g
 simp only[sT_one,akk,kRg,iS,uq,uT,ad0,simQ,af,S1,Nat.reduceSub,Nat.reduceAdd,-eq_self,aH,g]
 intro e;(try simp only[e,aH,-eq_self]);clear e
 ·simp[bone,cd]
theorem aqa {sp:Spec} {key:Nat} (hF:sp.F key=uT) (hP:sp.pre key=fun _=>True:=by rfl):SmOk Tryz.prog sp (ae3 key):=
 au (s:=ae3 key) hF hP mxo8 bc (smc (aba rfl) sm0) Tryz.func140 fn0 apQ (.inl rfl) (fun x0 gx0 hp U g=>apu x0 gx0 U g)
def ae8 (key:Nat):Sm:=⟨109,key,[.agg kRg,.one (.int .u64)],[.one .bool],false⟩
def ad5 (a:Rg) (v:Int):List Dt:=[.z (b2i (bhas a v))]
def uZ:List Dt->List Dt
 | [.z x0,.z x1,.z x2,.z x3,.z x4]=>ad5 ⟨x0,x1,x2,x3⟩ x4
 | _=>[]
def sT_has:Tr:=
(.call 0 [.bool] (.vs 0 4 .nil) 5
(.br (.bw 5)
(.call 1 (kPu) (.vs 0 4 .nil) 6
(.call 3 [.bool] (.vs 6 2 (.cons (.var 4) .nil)) 8
(.br (.bw 8)
(.call 2 (kPi) (.vs 0 4 .nil) 9
(.call 4 [.bool] (.vs 9 2 (.cons (.conv .i64 (.var 4)) .nil)) 11
(.leaf (.cb (.bw 11) .nil))))
(.leaf (.cb (.tt false) .nil)))))
(.leaf (.cb (.tt false) .nil))))
def aku:Spec:={F:=fun k=>match k with | 0=>cF | 1=>dJ | 2=>dM | 3=>nN | 4=>oa | _=>fun _=>[],pre:=fun _ _=>True}
theorem ap0:ap tys_XbA [ir 0,lC 1,lD 2,xh 3,xu 4] [] [] [] 200 Tryz.f109 [.agg kRg,.one (.int .u64)] [.one .bool] false [.int .u64,.int .u64,.int .i64,.int .i64,.int .u64] sT_has:=⟨by kernel_rfl,by kernel_rfl,by kernel_rfl⟩
theorem apF (a:Rg) (ha:Rg.ok a) (v:Int) (hv:inK .u64 v=true) (U:Env) (g:varsD U 0 [.int .u64,.int .u64,.int .i64,.int .i64,.int .u64]=[.z a.ul,.z a.uh,.z a.sl,.z a.sh,.z v]):sT_has.asks aku (fun U e=>e.D U=uZ [.z a.ul,.z a.uh,.z a.sl,.z a.sh,.z v]) U fun _ _=>False:=by
 simp only[varsD,varD,thm5,gS0,Nat.reduceAdd,and_true] at g
 simp only[sT_has,aku,kPi,kPu,cF,dJ,dM,nN,oa,iq,lA,lB,wI,wS,uZ,ad5,simQ,af,S1,Nat.reduceSub,Nat.reduceAdd,-eq_self,aH,g]
 intro e;(try simp only[e,aH,-eq_self]);clear e
 constructor<;>intro c0
 intro e;(try simp only[e,aH,-eq_self]);clear e
 intro e;(try simp only[e,aH,-eq_self]);clear e
 constructor<;>intro c1
 intro e;(try simp only[e,aH,-eq_self]);clear e
 intro e;(try simp only[e,aH,-eq_self]);clear e
 ·(unfold bhas;simp_all [cd];try (intros;omega))
 ·(unfold bhas;simp_all [cd];try (intros;omega))
 ·(unfold bhas;simp_all [cd];try (intros;omega))
theorem aqh {sp:Spec} {key:Nat} (hF:sp.F key=uZ) (hP:sp.pre key=fun _=>True:=by rfl):SmOk Tryz.prog sp (ae8 key):=
 au (s:=ae8 key) hF hP mxo8 bc (smc (lE rfl) (smc (pq rfl) (smc (pt rfl) (smc (anM rfl) (smc (anV rfl) sm0))))) Tryz.func109 fn0 ap0 (.inl rfl) (fun x0 gx0 x1 gx1 x2 gx2 x3 gx3 x4 gx4 hp U g=>apF ⟨x0,x1,x2,x3⟩ ⟨gx0,gx1,gx2,gx3⟩ x4 gx4 U g)
def ge (key:Nat):Sm:=⟨194,key,[.agg kRg],[.one (.int .u64),.one .bool],true⟩
def fX (a:Rg):List Dt:=[.z (aB a),.z (b2i (dV a))]
def cE:List Dt->List Dt
 | [.z x0,.z x1,.z x2,.z x3]=>fX ⟨x0,x1,x2,x3⟩
 | _=>[]
def sT_single:Tr:=
(.br (.eq (.var 0) (.var 1))
(.call 0 [.bool] (.vs 0 4 (.cons (.var 0) .nil)) 4
(.br (.bw 4)
(.leaf (.cons (.var 0) (.cb (.tt true) .nil)))
(.leaf (.cons (.lit 0) (.cb (.tt false) .nil)))))
(.leaf (.cons (.lit 0) (.cb (.tt false) .nil))))
def uE:Spec:={F:=fun k=>match k with | 0=>uZ | _=>fun _=>[],pre:=fun _ _=>True}
theorem aef:ap tys_XbA [ae8 0] [] [] [] 200 Tryz.f194 [.agg kRg] [.one (.int .u64),.one .bool] true [.int .u64,.int .u64,.int .i64,.int .i64] sT_single:=⟨by kernel_rfl,by kernel_rfl,by kernel_rfl⟩
theorem adJ (a:Rg) (ha:Rg.ok a) (U:Env) (g:varsD U 0 [.int .u64,.int .u64,.int .i64,.int .i64]=[.z a.ul,.z a.uh,.z a.sl,.z a.sh]):sT_single.asks uE (fun U e=>e.D U=cE [.z a.ul,.z a.uh,.z a.sl,.z a.sh]) U fun _ _=>False:=by
 simp only[varsD,varD,thm5,gS0,Nat.reduceAdd,and_true] at g
 simp only[sT_single,uE,uZ,ad5,cE,fX,simQ,af,S1,Nat.reduceSub,Nat.reduceAdd,-eq_self,aH,g]
 constructor<;>intro c0
 intro e;(try simp only[e,aH,-eq_self]);clear e
 constructor<;>intro c1
 ·(unfold aB dV;simp_all)
 ·(unfold aB dV;simp_all)
 ·(unfold aB dV;simp_all)
theorem nC {sp:Spec} {key:Nat} (hF:sp.F key=cE) (hP:sp.pre key=fun _=>True:=by rfl):SmOk Tryz.prog sp (ge key):=
 au (s:=ge key) hF hP mxo8 bc (smc (aqh rfl) sm0) Tryz.func194 fn0 aef (.inl rfl) (fun x0 gx0 x1 gx1 x2 gx2 x3 gx3 hp U g=>adJ ⟨x0,x1,x2,x3⟩ ⟨gx0,gx1,gx2,gx3⟩ U g)
def xq (key:Nat):Sm:=⟨153,key,[.agg kRg,.agg kRg],[.agg kRg],false⟩
def wP (a:Rg) (b:Rg):List Dt:=[.z ((o8 a b).ul),.z ((o8 a b).uh),.z ((o8 a b).sl),.z ((o8 a b).sh)]
def nX:List Dt->List Dt
 | [.z x0,.z x1,.z x2,.z x3,.z x4,.z x5,.z x6,.z x7]=>wP ⟨x0,x1,x2,x3⟩ ⟨x4,x5,x6,x7⟩
 | _=>[]
def sT_join:Tr:=
(.call 0 [.bool] (.vs 0 4 .nil) 8
(.br (.bw 8)
(.call 0 [.bool] (.vs 4 4 .nil) 9
(.br (.bw 9)
(.call 2 (kPu) (.vs 0 4 .nil) 10
(.call 2 (kPu) (.vs 4 4 .nil) 12
(.call 4 (kPu) (.vs 10 4 .nil) 14
(.call 3 (kPi) (.vs 0 4 .nil) 16
(.call 3 (kPi) (.vs 4 4 .nil) 18
(.call 5 (kPi) (.vs 16 4 .nil) 20
(.call 6 (kRg) (.vs 14 2 (.vs 20 2 .nil)) 22
(.leaf (.vs 22 4 .nil)))))))))
(.call 1 (kRg) .nil 10
(.leaf (.vs 10 4 .nil)))))
(.call 1 (kRg) .nil 9
(.leaf (.vs 9 4 .nil)))))
def aeT:Spec:={F:=fun k=>match k with | 0=>cF | 1=>bv | 2=>dJ | 3=>dM | 4=>jG | 5=>jN | 6=>iS | _=>fun _=>[],pre:=fun _ _=>True}
theorem ans:ap tys_XbA [ir 0,dH 1,lC 2,lD 3,rv 4,rP 5,uL 6] [] [] [] 200 Tryz.f153 [.agg kRg,.agg kRg] [.agg kRg] false [.int .u64,.int .u64,.int .i64,.int .i64,.int .u64,.int .u64,.int .i64,.int .i64] sT_join:=⟨by kernel_rfl,by kernel_rfl,by kernel_rfl⟩
theorem amL (a:Rg) (ha:Rg.ok a) (b:Rg) (hb:Rg.ok b) (U:Env) (g:varsD U 0 [.int .u64,.int .u64,.int .i64,.int .i64,.int .u64,.int .u64,.int .i64,.int .i64]=[.z a.ul,.z a.uh,.z a.sl,.z a.sh,.z b.ul,.z b.uh,.z b.sl,.z b.sh]):sT_join.asks aeT (fun U e=>e.D U=nX [.z a.ul,.z a.uh,.z a.sl,.z a.sh,.z b.ul,.z b.uh,.z b.sl,.z b.sh]) U fun _ _=>False:=by
 simp only[varsD,varD,thm5,gS0,Nat.reduceAdd,and_true] at g
 simp only[sT_join,aeT,kPi,kPu,kRg,cF,bv,dJ,dM,jG,jN,iS,iq,lA,lB,qL,qZ,uq,nX,wP,simQ,af,S1,Nat.reduceSub,Nat.reduceAdd,-eq_self,aH,g]
 intro e;(try simp only[e,aH,-eq_self]);clear e
 constructor<;>intro c0
 intro e;(try simp only[e,aH,-eq_self]);clear e
 constructor<;>intro c1
 intro e;(try simp only[e,aH,-eq_self]);clear e
 intro e;(try simp only[e,aH,-eq_self]);clear e
 intro e;(try simp only[e,aH,-eq_self]);clear e
 intro e;(try simp only[e,aH,-eq_self]);clear e
 intro e;(try simp only[e,aH,-eq_self]);clear e
 intro e;(try simp only[e,aH,-eq_self]);clear e
 intro e;(try simp only[e,aH,-eq_self]);clear e
 ·(unfold o8;simp_all [aaJ])
 intro e;(try simp only[e,aH,-eq_self]);clear e
 ·(unfold o8;simp_all [aaJ])
 intro e;(try simp only[e,aH,-eq_self]);clear e
 ·(unfold o8;simp_all [aaJ])
theorem anT {sp:Spec} {key:Nat} (hF:sp.F key=nX) (hP:sp.pre key=fun _=>True:=by rfl):SmOk Tryz.prog sp (xq key):=
 au (s:=xq key) hF hP mxo8 bc (smc (lE rfl) (smc (eU rfl) (smc (pq rfl) (smc (pt rfl) (smc (ai2 rfl) (smc (aja rfl) (smc (aba rfl) sm0))))))) Tryz.func153 fn0 ans (.inl rfl) (fun x0 gx0 x1 gx1 x2 gx2 x3 gx3 x4 gx4 x5 gx5 x6 gx6 x7 gx7 hp U g=>amL ⟨x0,x1,x2,x3⟩ ⟨gx0,gx1,gx2,gx3⟩ ⟨x4,x5,x6,x7⟩ ⟨gx4,gx5,gx6,gx7⟩ U g)
end Go.Proofs.YtfkhblmeioiciaaGreatDoor
