import Derived.Test.YtfkhblmeioiciaaGreatDoorSyZe
import Derived.Test.YtfkhblmeioiciaaGreatDoorBdZ
import Derived.Test.YtfkhblmeioiciaaGreatDoorProg
import Derived.Laws.Externs
set_option linter.unusedVariables false
set_option linter.unusedSimpArgs false
namespace Go.Proofs.YtfkhblmeioiciaaGreatDoor
open Go.RowKit Go.ChangeShapes Go.WideShapes
structure Pu where
 lo:Int
 hi:Int
structure Pi where
 lo:Int
 hi:Int
theorem Rg.eta (a:Rg):(⟨a.ul,a.uh,a.sl,a.sh⟩:Rg)=a:=rfl
def Rg.ok (a:Rg):Prop:=inK .u64 a.ul=true∧inK .u64 a.uh=true∧inK .i64 a.sl=true∧inK .i64 a.sh=true
def kRg:List CK:=[.int .u64,.int .u64,.int .i64,.int .i64]
theorem Pu.eta (a:Pu):(⟨a.lo,a.hi⟩:Pu)=a:=rfl
def Pu.ok (a:Pu):Prop:=inK .u64 a.lo=true∧inK .u64 a.hi=true
def kPu:List CK:=[.int .u64,.int .u64]
theorem Pi.eta (a:Pi):(⟨a.lo,a.hi⟩:Pi)=a:=rfl
def Pi.ok (a:Pi):Prop:=inK .i64 a.lo=true∧inK .i64 a.hi=true
def kPi:List CK:=[.int .i64,.int .i64]
def tys_XbA:List (Nat×TI):=[(2,⟨false,1,[.int .i64 (.lit 0)],[],none,some .i64,false,false,none,8,false,none,false,0⟩),
 (42,⟨false,1,[.int .u64 (.lit 0)],[],none,some .u64,false,false,none,8,false,none,false,0⟩),
 (44,⟨true,4,(zN 4 2211),[(0,42),(1,42),(2,2),(3,2)],none,none,false,false,none,32,false,none,false,0⟩),
 (209,⟨true,2,[.int .u64 (.lit 0),.int .u64 (.lit 0)],[(0,42),(1,42)],none,none,false,false,none,16,false,none,false,0⟩),
 (213,⟨true,2,[.int .i64 (.lit 0),.int .i64 (.lit 0)],[(0,2),(1,2)],none,none,false,false,none,16,false,none,false,0⟩)]
set_option maxRecDepth 100000 in
theorem zL:(tys_XbA.all fun p=>ckTI Tryz.prog p.1 p.2)=true:=by kernel_rfl
theorem qp:(tys_XbA.all fun p=>!p.2.eqok)=true:=by kernel_rfl
theorem zu:(tys_XbA.all fun p=>!p.2.keyok)=true:=by kernel_rfl
theorem aV:∀t i,(t,i)∈tys_XbA→TIok Tryz.prog t i:=by
 intro t i h
 refine bI (cM (f:=ckTI Tryz.prog) zL h) (fun he=> ?_) (fun he=> ?_) (fun he=> ?_)
 ·have h1:=List.all_eq_true.1 qp (t,i) h
  simp[he] at h1
 ·have h1:=List.all_eq_true.1 qp (t,i) h
  simp[he] at h1
 ·have h1:=List.all_eq_true.1 zu (t,i) h
  simp[he] at h1
def nt (key:Nat):Sm:=⟨174,key,[.agg kRg],[.agg kPu],false⟩
def nm (a:Rg):List Dt:=[.z (((⟨a.ul,a.uh⟩:Pu)).lo),.z (((⟨a.ul,a.uh⟩:Pu)).hi)]
def eR:List Dt→List Dt
 | [.z x0,.z x1,.z x2,.z x3]=>nm ⟨x0,x1,x2,x3⟩
 | _=>[]
def sT_uns:Tr:=
(.leaf (.vs 0 2 .nil))
def afT:Spec:={F:=fun k=>match k with | _=>fun _=>[],pre:=fun k=>match k with | _=>fun _=>True}
set_option maxRecDepth 100000 in
theorem akf:am tys_XbA [] [] [] [] 200 Tryz.f174 [.agg kRg] [.agg kPu] false [.int .u64,.int .u64,.int .i64,.int .i64] sT_uns:=⟨by kernel_rfl,by kernel_rfl,by kernel_rfl⟩
set_option maxRecDepth 100000 in
set_option maxHeartbeats 8000000 in
theorem ajW (a:Rg) (ha:Rg.ok a) (ρ:Env) (g:af ρ 0 [.int .u64,.int .u64,.int .i64,.int .i64]=[.z a.ul,.z a.uh,.z a.sl,.z a.sh]):sT_uns.asks afT (fun ρ e=>e.D ρ=eR [.z a.ul,.z a.uh,.z a.sl,.z a.sh]) ρ fun _ _=>False:=by
 simp only[af,varD,List.cons.injEq,Dt.z.injEq,Dt.l.injEq,b2i_eq_iff,Nat.reduceAdd,and_true] at g
 simp only[sT_uns,afT,eR,nm,Tr.asks,ai,okDs,okD,eqs,E.I,E.B,E.L,E.R,E.D,E.vs,E.gs,E.ins,E.sv,E.tn,E.iv,E.zs,E.pv,Nat.reduceSub,dI,dB,dL,varD,af,S1,Nat.reduceAdd,-eq_self,Rg.eta,g]
 ·rfl
theorem vR {sp:Spec} {key:Nat} (hF:sp.F key=eR) (hP:sp.pre key=fun _=>True:=by rfl):SmOk Tryz.prog sp (nt key):=
 an (s:=nt key) hF hP (by kernel_rfl) aV (sm0) Tryz.func174 fn0 akf (.inl rfl) (fun x0 gx0 x1 gx1 x2 gx2 x3 gx3 hp ρ g=>ajW ⟨x0,x1,x2,x3⟩ ⟨gx0,gx1,gx2,gx3⟩ ρ g)
def nu (key:Nat):Sm:=⟨176,key,[.agg kRg],[.agg kPi],false⟩
def nn (a:Rg):List Dt:=[.z (((⟨a.sl,a.sh⟩:Pi)).lo),.z (((⟨a.sl,a.sh⟩:Pi)).hi)]
def eS:List Dt→List Dt
 | [.z x0,.z x1,.z x2,.z x3]=>nn ⟨x0,x1,x2,x3⟩
 | _=>[]
def sT_sig:Tr:=
(.leaf (.vs 2 2 .nil))
def afV:Spec:={F:=fun k=>match k with | _=>fun _=>[],pre:=fun k=>match k with | _=>fun _=>True}
set_option maxRecDepth 100000 in
theorem akh:am tys_XbA [] [] [] [] 200 Tryz.f176 [.agg kRg] [.agg kPi] false [.int .u64,.int .u64,.int .i64,.int .i64] sT_sig:=⟨by kernel_rfl,by kernel_rfl,by kernel_rfl⟩
set_option maxRecDepth 100000 in
set_option maxHeartbeats 8000000 in
theorem ajY (a:Rg) (ha:Rg.ok a) (ρ:Env) (g:af ρ 0 [.int .u64,.int .u64,.int .i64,.int .i64]=[.z a.ul,.z a.uh,.z a.sl,.z a.sh]):sT_sig.asks afV (fun ρ e=>e.D ρ=eS [.z a.ul,.z a.uh,.z a.sl,.z a.sh]) ρ fun _ _=>False:=by
 simp only[af,varD,List.cons.injEq,Dt.z.injEq,Dt.l.injEq,b2i_eq_iff,Nat.reduceAdd,and_true] at g
 simp only[sT_sig,afV,eS,nn,Tr.asks,ai,okDs,okD,eqs,E.I,E.B,E.L,E.R,E.D,E.vs,E.gs,E.ins,E.sv,E.tn,E.iv,E.zs,E.pv,Nat.reduceSub,dI,dB,dL,varD,af,S1,Nat.reduceAdd,-eq_self,Rg.eta,g]
 ·rfl
theorem vT {sp:Spec} {key:Nat} (hF:sp.F key=eS) (hP:sp.pre key=fun _=>True:=by rfl):SmOk Tryz.prog sp (nu key):=
 an (s:=nu key) hF hP (by kernel_rfl) aV (sm0) Tryz.func176 fn0 akh (.inl rfl) (fun x0 gx0 x1 gx1 x2 gx2 x3 gx3 hp ρ g=>ajY ⟨x0,x1,x2,x3⟩ ⟨gx0,gx1,gx2,gx3⟩ ρ g)
def tE (key:Nat):Sm:=⟨219,key,[.agg kPu],[.one .bool],false⟩
def sX (a:Pu):List Dt:=[.z (b2i (decide (a.lo≤a.hi)))]
def lN:List Dt→List Dt
 | [.z x0,.z x1]=>sX ⟨x0,x1⟩
 | _=>[]
def sT_umay:Tr:=
(.leaf (.consb (.not (.lt (.var 1) (.var 0))) .nil))
def abg:Spec:={F:=fun k=>match k with | _=>fun _=>[],pre:=fun k=>match k with | _=>fun _=>True}
set_option maxRecDepth 100000 in
theorem ahQ:am tys_XbA [] [] [] [] 200 Tryz.f219 [.agg kPu] [.one .bool] false [.int .u64,.int .u64] sT_umay:=⟨by kernel_rfl,by kernel_rfl,by kernel_rfl⟩
set_option maxRecDepth 100000 in
set_option maxHeartbeats 8000000 in
theorem ahg (a:Pu) (ha:Pu.ok a) (ρ:Env) (g:af ρ 0 [.int .u64,.int .u64]=[.z a.lo,.z a.hi]):sT_umay.asks abg (fun ρ e=>e.D ρ=lN [.z a.lo,.z a.hi]) ρ fun _ _=>False:=by
 simp only[af,varD,List.cons.injEq,Dt.z.injEq,Dt.l.injEq,b2i_eq_iff,Nat.reduceAdd,and_true] at g
 simp only[sT_umay,abg,lN,sX,Tr.asks,ai,okDs,okD,eqs,E.I,E.B,E.L,E.R,E.D,E.vs,E.gs,E.ins,E.sv,E.tn,E.iv,E.zs,E.pv,Nat.reduceSub,dI,dB,dL,varD,af,S1,Nat.reduceAdd,-eq_self,Pu.eta,g]
 ·simp[bv]
theorem aij {sp:Spec} {key:Nat} (hF:sp.F key=lN) (hP:sp.pre key=fun _=>True:=by rfl):SmOk Tryz.prog sp (tE key):=
 an (s:=tE key) hF hP (by kernel_rfl) aV (sm0) Tryz.func219 fn0 ahQ (.inl rfl) (fun x0 gx0 x1 gx1 hp ρ g=>ahg ⟨x0,x1⟩ ⟨gx0,gx1⟩ ρ g)
def tQ (key:Nat):Sm:=⟨220,key,[.agg kPi],[.one .bool],false⟩
def tu (a:Pi):List Dt:=[.z (b2i (decide (a.lo≤a.hi)))]
def mg:List Dt→List Dt
 | [.z x0,.z x1]=>tu ⟨x0,x1⟩
 | _=>[]
def sT_imay:Tr:=
(.leaf (.consb (.not (.lt (.var 1) (.var 0))) .nil))
def abC:Spec:={F:=fun k=>match k with | _=>fun _=>[],pre:=fun k=>match k with | _=>fun _=>True}
set_option maxRecDepth 100000 in
theorem aib:am tys_XbA [] [] [] [] 200 Tryz.f220 [.agg kPi] [.one .bool] false [.int .i64,.int .i64] sT_imay:=⟨by kernel_rfl,by kernel_rfl,by kernel_rfl⟩
set_option maxRecDepth 100000 in
set_option maxHeartbeats 8000000 in
theorem ahB (a:Pi) (ha:Pi.ok a) (ρ:Env) (g:af ρ 0 [.int .i64,.int .i64]=[.z a.lo,.z a.hi]):sT_imay.asks abC (fun ρ e=>e.D ρ=mg [.z a.lo,.z a.hi]) ρ fun _ _=>False:=by
 simp only[af,varD,List.cons.injEq,Dt.z.injEq,Dt.l.injEq,b2i_eq_iff,Nat.reduceAdd,and_true] at g
 simp only[sT_imay,abC,mg,tu,Tr.asks,ai,okDs,okD,eqs,E.I,E.B,E.L,E.R,E.D,E.vs,E.gs,E.ins,E.sv,E.tn,E.iv,E.zs,E.pv,Nat.reduceSub,dI,dB,dL,varD,af,S1,Nat.reduceAdd,-eq_self,Pi.eta,g]
 ·simp[bv]
theorem aiv {sp:Spec} {key:Nat} (hF:sp.F key=mg) (hP:sp.pre key=fun _=>True:=by rfl):SmOk Tryz.prog sp (tQ key):=
 an (s:=tQ key) hF hP (by kernel_rfl) aV (sm0) Tryz.func220 fn0 aib (.inl rfl) (fun x0 gx0 x1 gx1 hp ρ g=>ahB ⟨x0,x1⟩ ⟨gx0,gx1⟩ ρ g)
def tF (key:Nat):Sm:=⟨175,key,[.agg kPu,.one (.int .u64)],[.one .bool],false⟩
def sY (a:Pu) (v:Int):List Dt:=[.z (b2i ((decide (a.lo≤v)&&decide (v≤a.hi))))]
def lO:List Dt→List Dt
 | [.z x0,.z x1,.z x2]=>sY ⟨x0,x1⟩ x2
 | _=>[]
def sT_uhas:Tr:=
(.br (.lt (.var 2) (.var 0))
(.leaf (.consb (.tt false) .nil))
(.leaf (.consb (.not (.lt (.var 1) (.var 2))) .nil)))
def abh:Spec:={F:=fun k=>match k with | _=>fun _=>[],pre:=fun k=>match k with | _=>fun _=>True}
set_option maxRecDepth 100000 in
theorem ahR:am tys_XbA [] [] [] [] 200 Tryz.f175 [.agg kPu,.one (.int .u64)] [.one .bool] false [.int .u64,.int .u64,.int .u64] sT_uhas:=⟨by kernel_rfl,by kernel_rfl,by kernel_rfl⟩
set_option maxRecDepth 100000 in
set_option maxHeartbeats 8000000 in
theorem ahh (a:Pu) (ha:Pu.ok a) (v:Int) (hv:inK .u64 v=true) (ρ:Env) (g:af ρ 0 [.int .u64,.int .u64,.int .u64]=[.z a.lo,.z a.hi,.z v]):sT_uhas.asks abh (fun ρ e=>e.D ρ=lO [.z a.lo,.z a.hi,.z v]) ρ fun _ _=>False:=by
 simp only[af,varD,List.cons.injEq,Dt.z.injEq,Dt.l.injEq,b2i_eq_iff,Nat.reduceAdd,and_true] at g
 simp only[sT_uhas,abh,lO,sY,Tr.asks,ai,okDs,okD,eqs,E.I,E.B,E.L,E.R,E.D,E.vs,E.gs,E.ins,E.sv,E.tn,E.iv,E.zs,E.pv,Nat.reduceSub,dI,dB,dL,varD,af,S1,Nat.reduceAdd,-eq_self,Pu.eta,g]
 constructor<;>intro c0
 ·simp_all [bv]
 ·simp_all [bv]
theorem aik {sp:Spec} {key:Nat} (hF:sp.F key=lO) (hP:sp.pre key=fun _=>True:=by rfl):SmOk Tryz.prog sp (tF key):=
 an (s:=tF key) hF hP (by kernel_rfl) aV (sm0) Tryz.func175 fn0 ahR (.inl rfl) (fun x0 gx0 x1 gx1 x2 gx2 hp ρ g=>ahh ⟨x0,x1⟩ ⟨gx0,gx1⟩ x2 gx2 ρ g)
def tR (key:Nat):Sm:=⟨177,key,[.agg kPi,.one (.int .i64)],[.one .bool],false⟩
def tv (a:Pi) (v:Int):List Dt:=[.z (b2i ((decide (a.lo≤v)&&decide (v≤a.hi))))]
def mh:List Dt→List Dt
 | [.z x0,.z x1,.z x2]=>tv ⟨x0,x1⟩ x2
 | _=>[]
def sT_ihas:Tr:=
(.br (.lt (.var 2) (.var 0))
(.leaf (.consb (.tt false) .nil))
(.leaf (.consb (.not (.lt (.var 1) (.var 2))) .nil)))
def abD:Spec:={F:=fun k=>match k with | _=>fun _=>[],pre:=fun k=>match k with | _=>fun _=>True}
set_option maxRecDepth 100000 in
theorem aic:am tys_XbA [] [] [] [] 200 Tryz.f177 [.agg kPi,.one (.int .i64)] [.one .bool] false [.int .i64,.int .i64,.int .i64] sT_ihas:=⟨by kernel_rfl,by kernel_rfl,by kernel_rfl⟩
set_option maxRecDepth 100000 in
set_option maxHeartbeats 8000000 in
theorem ahC (a:Pi) (ha:Pi.ok a) (v:Int) (hv:inK .i64 v=true) (ρ:Env) (g:af ρ 0 [.int .i64,.int .i64,.int .i64]=[.z a.lo,.z a.hi,.z v]):sT_ihas.asks abD (fun ρ e=>e.D ρ=mh [.z a.lo,.z a.hi,.z v]) ρ fun _ _=>False:=by
 simp only[af,varD,List.cons.injEq,Dt.z.injEq,Dt.l.injEq,b2i_eq_iff,Nat.reduceAdd,and_true] at g
 simp only[sT_ihas,abD,mh,tv,Tr.asks,ai,okDs,okD,eqs,E.I,E.B,E.L,E.R,E.D,E.vs,E.gs,E.ins,E.sv,E.tn,E.iv,E.zs,E.pv,Nat.reduceSub,dI,dB,dL,varD,af,S1,Nat.reduceAdd,-eq_self,Pi.eta,g]
 constructor<;>intro c0
 ·simp_all [bv]
 ·simp_all [bv]
theorem aiw {sp:Spec} {key:Nat} (hF:sp.F key=mh) (hP:sp.pre key=fun _=>True:=by rfl):SmOk Tryz.prog sp (tR key):=
 an (s:=tR key) hF hP (by kernel_rfl) aV (sm0) Tryz.func177 fn0 aic (.inl rfl) (fun x0 gx0 x1 gx1 x2 gx2 hp ρ g=>ahC ⟨x0,x1⟩ ⟨gx0,gx1⟩ x2 gx2 ρ g)
def kB (key:Nat):Sm:=⟨236,key,[.agg kPu,.agg kPu],[.agg kPu],false⟩
def kz (a:Pu) (b:Pu):List Dt:=[.z (((⟨max a.lo b.lo,min a.hi b.hi⟩:Pu)).lo),.z (((⟨max a.lo b.lo,min a.hi b.hi⟩:Pu)).hi)]
def en:List Dt→List Dt
 | [.z x0,.z x1,.z x2,.z x3]=>kz ⟨x0,x1⟩ ⟨x2,x3⟩
 | _=>[]
def sT_umeet:Tr:=
(.leaf (.cons (.mx (.var 0) (.var 2)) (.cons (.mn (.var 1) (.var 3)) .nil)))
def vC:Spec:={F:=fun k=>match k with | _=>fun _=>[],pre:=fun k=>match k with | _=>fun _=>True}
set_option maxRecDepth 100000 in
theorem aes:am tys_XbA [] [] [] [] 200 Tryz.f236 [.agg kPu,.agg kPu] [.agg kPu] false [.int .u64,.int .u64,.int .u64,.int .u64] sT_umeet:=⟨by kernel_rfl,by kernel_rfl,by kernel_rfl⟩
set_option maxRecDepth 100000 in
set_option maxHeartbeats 8000000 in
theorem ad8 (a:Pu) (ha:Pu.ok a) (b:Pu) (hb:Pu.ok b) (ρ:Env) (g:af ρ 0 [.int .u64,.int .u64,.int .u64,.int .u64]=[.z a.lo,.z a.hi,.z b.lo,.z b.hi]):sT_umeet.asks vC (fun ρ e=>e.D ρ=en [.z a.lo,.z a.hi,.z b.lo,.z b.hi]) ρ fun _ _=>False:=by
 simp only[af,varD,List.cons.injEq,Dt.z.injEq,Dt.l.injEq,b2i_eq_iff,Nat.reduceAdd,and_true] at g
 simp only[sT_umeet,vC,en,kz,Tr.asks,ai,okDs,okD,eqs,E.I,E.B,E.L,E.R,E.D,E.vs,E.gs,E.ins,E.sv,E.tn,E.iv,E.zs,E.pv,Nat.reduceSub,dI,dB,dL,varD,af,S1,Nat.reduceAdd,-eq_self,Pu.eta,g]
 ·rfl
theorem vS {sp:Spec} {key:Nat} (hF:sp.F key=en) (hP:sp.pre key=fun _=>True:=by rfl):SmOk Tryz.prog sp (kB key):=
 an (s:=kB key) hF hP (by kernel_rfl) aV (sm0) Tryz.func236 fn0 aes (.inl rfl) (fun x0 gx0 x1 gx1 x2 gx2 x3 gx3 hp ρ g=>ad8 ⟨x0,x1⟩ ⟨gx0,gx1⟩ ⟨x2,x3⟩ ⟨gx2,gx3⟩ ρ g)
def kC (key:Nat):Sm:=⟨237,key,[.agg kPi,.agg kPi],[.agg kPi],false⟩
def kA (a:Pi) (b:Pi):List Dt:=[.z (((⟨max a.lo b.lo,min a.hi b.hi⟩:Pi)).lo),.z (((⟨max a.lo b.lo,min a.hi b.hi⟩:Pi)).hi)]
def eu:List Dt→List Dt
 | [.z x0,.z x1,.z x2,.z x3]=>kA ⟨x0,x1⟩ ⟨x2,x3⟩
 | _=>[]
def sT_imeet:Tr:=
(.leaf (.cons (.mx (.var 0) (.var 2)) (.cons (.mn (.var 1) (.var 3)) .nil)))
def vJ:Spec:={F:=fun k=>match k with | _=>fun _=>[],pre:=fun k=>match k with | _=>fun _=>True}
set_option maxRecDepth 100000 in
theorem aez:am tys_XbA [] [] [] [] 200 Tryz.f237 [.agg kPi,.agg kPi] [.agg kPi] false [.int .i64,.int .i64,.int .i64,.int .i64] sT_imeet:=⟨by kernel_rfl,by kernel_rfl,by kernel_rfl⟩
set_option maxRecDepth 100000 in
set_option maxHeartbeats 8000000 in
theorem aef (a:Pi) (ha:Pi.ok a) (b:Pi) (hb:Pi.ok b) (ρ:Env) (g:af ρ 0 [.int .i64,.int .i64,.int .i64,.int .i64]=[.z a.lo,.z a.hi,.z b.lo,.z b.hi]):sT_imeet.asks vJ (fun ρ e=>e.D ρ=eu [.z a.lo,.z a.hi,.z b.lo,.z b.hi]) ρ fun _ _=>False:=by
 simp only[af,varD,List.cons.injEq,Dt.z.injEq,Dt.l.injEq,b2i_eq_iff,Nat.reduceAdd,and_true] at g
 simp only[sT_imeet,vJ,eu,kA,Tr.asks,ai,okDs,okD,eqs,E.I,E.B,E.L,E.R,E.D,E.vs,E.gs,E.ins,E.sv,E.tn,E.iv,E.zs,E.pv,Nat.reduceSub,dI,dB,dL,varD,af,S1,Nat.reduceAdd,-eq_self,Pi.eta,g]
 ·rfl
theorem vU {sp:Spec} {key:Nat} (hF:sp.F key=eu) (hP:sp.pre key=fun _=>True:=by rfl):SmOk Tryz.prog sp (kC key):=
 an (s:=kC key) hF hP (by kernel_rfl) aV (sm0) Tryz.func237 fn0 aez (.inl rfl) (fun x0 gx0 x1 gx1 x2 gx2 x3 gx3 hp ρ g=>aef ⟨x0,x1⟩ ⟨gx0,gx1⟩ ⟨x2,x3⟩ ⟨gx2,gx3⟩ ρ g)
def xT (key:Nat):Sm:=⟨186,key,[.agg kPu,.agg kPi],[.agg kRg],false⟩
def xO (a:Pu) (b:Pi):List Dt:=[.z (((⟨a.lo,a.hi,b.lo,b.hi⟩:Rg)).ul),.z (((⟨a.lo,a.hi,b.lo,b.hi⟩:Rg)).uh),.z (((⟨a.lo,a.hi,b.lo,b.hi⟩:Rg)).sl),.z (((⟨a.lo,a.hi,b.lo,b.hi⟩:Rg)).sh)]
def lR:List Dt→List Dt
 | [.z x0,.z x1,.z x2,.z x3]=>xO ⟨x0,x1⟩ ⟨x2,x3⟩
 | _=>[]
def sT_of:Tr:=
(.leaf (.vs 0 4 .nil))
def akv:Spec:={F:=fun k=>match k with | _=>fun _=>[],pre:=fun k=>match k with | _=>fun _=>True}
set_option maxRecDepth 100000 in
theorem alQ:am tys_XbA [] [] [] [] 200 Tryz.f186 [.agg kPu,.agg kPi] [.agg kRg] false [.int .u64,.int .u64,.int .i64,.int .i64] sT_of:=⟨by kernel_rfl,by kernel_rfl,by kernel_rfl⟩
set_option maxRecDepth 100000 in
set_option maxHeartbeats 8000000 in
theorem alM (a:Pu) (ha:Pu.ok a) (b:Pi) (hb:Pi.ok b) (ρ:Env) (g:af ρ 0 [.int .u64,.int .u64,.int .i64,.int .i64]=[.z a.lo,.z a.hi,.z b.lo,.z b.hi]):sT_of.asks akv (fun ρ e=>e.D ρ=lR [.z a.lo,.z a.hi,.z b.lo,.z b.hi]) ρ fun _ _=>False:=by
 simp only[af,varD,List.cons.injEq,Dt.z.injEq,Dt.l.injEq,b2i_eq_iff,Nat.reduceAdd,and_true] at g
 simp only[sT_of,akv,lR,xO,Tr.asks,ai,okDs,okD,eqs,E.I,E.B,E.L,E.R,E.D,E.vs,E.gs,E.ins,E.sv,E.tn,E.iv,E.zs,E.pv,Nat.reduceSub,dI,dB,dL,varD,af,S1,Nat.reduceAdd,-eq_self,Pi.eta,Pu.eta,g]
 ·rfl
theorem aeM {sp:Spec} {key:Nat} (hF:sp.F key=lR) (hP:sp.pre key=fun _=>True:=by rfl):SmOk Tryz.prog sp (xT key):=
 an (s:=xT key) hF hP (by kernel_rfl) aV (sm0) Tryz.func186 fn0 alQ (.inl rfl) (fun x0 gx0 x1 gx1 x2 gx2 x3 gx3 hp ρ g=>alM ⟨x0,x1⟩ ⟨gx0,gx1⟩ ⟨x2,x3⟩ ⟨gx2,gx3⟩ ρ g)
def jZ (key:Nat):Sm:=⟨172,key,[.agg kRg],[.one .bool],false⟩
def jY (a:Rg):List Dt:=[.z (b2i (bmay a))]
def cZ:List Dt→List Dt
 | [.z x0,.z x1,.z x2,.z x3]=>jY ⟨x0,x1,x2,x3⟩
 | _=>[]
def sT_may:Tr:=
(.call 0 (kPu) (.vs 0 4 .nil) 4
(.call 2 [.bool] (.vs 4 2 .nil) 6
(.br (.bvar 6)
(.call 1 (kPi) (.vs 0 4 .nil) 7
(.call 3 [.bool] (.vs 7 2 .nil) 9
(.leaf (.consb (.bvar 9) .nil))))
(.leaf (.consb (.tt false) .nil)))))
def afY:Spec:={F:=fun k=>match k with | 0=>eR | 1=>eS | 2=>lN | 3=>mg | _=>fun _=>[],pre:=fun k=>match k with | _=>fun _=>True}
set_option maxRecDepth 100000 in
theorem akk:am tys_XbA [nt 0,nu 1,tE 2,tQ 3] [] [] [] 200 Tryz.f172 [.agg kRg] [.one .bool] false [.int .u64,.int .u64,.int .i64,.int .i64] sT_may:=⟨by kernel_rfl,by kernel_rfl,by kernel_rfl⟩
set_option maxRecDepth 100000 in
set_option maxHeartbeats 8000000 in
theorem aj1 (a:Rg) (ha:Rg.ok a) (ρ:Env) (g:af ρ 0 [.int .u64,.int .u64,.int .i64,.int .i64]=[.z a.ul,.z a.uh,.z a.sl,.z a.sh]):sT_may.asks afY (fun ρ e=>e.D ρ=cZ [.z a.ul,.z a.uh,.z a.sl,.z a.sh]) ρ fun _ _=>False:=by
 simp only[af,varD,List.cons.injEq,Dt.z.injEq,Dt.l.injEq,b2i_eq_iff,Nat.reduceAdd,and_true] at g
 simp only[sT_may,afY,kPi,kPu,eR,eS,lN,mg,nm,nn,sX,tu,cZ,jY,Tr.asks,ai,okDs,okD,eqs,E.I,E.B,E.L,E.R,E.D,E.vs,E.gs,E.ins,E.sv,E.tn,E.iv,E.zs,E.pv,Nat.reduceSub,dI,dB,dL,varD,af,S1,Nat.reduceAdd,-eq_self,Pi.eta,Pu.eta,Rg.eta,g]
 intro e; (try simp only[e,Pi.eta,Pu.eta,Rg.eta,-eq_self]); clear e
 intro e; (try simp only[e,Pi.eta,Pu.eta,Rg.eta,-eq_self]); clear e
 constructor<;>intro c0
 intro e; (try simp only[e,Pi.eta,Pu.eta,Rg.eta,-eq_self]); clear e
 intro e; (try simp only[e,Pi.eta,Pu.eta,Rg.eta,-eq_self]); clear e
 ·(unfold bmay; simp_all; try (intros; omega))
 ·(unfold bmay; simp_all; try (intros; omega))
theorem nv {sp:Spec} {key:Nat} (hF:sp.F key=cZ) (hP:sp.pre key=fun _=>True:=by rfl):SmOk Tryz.prog sp (jZ key):=
 an (s:=jZ key) hF hP (by kernel_rfl) aV (smc (vR rfl) (smc (vT rfl) (smc (aij rfl) (smc (aiv rfl) sm0)))) Tryz.func172 fn0 akk (.inl rfl) (fun x0 gx0 x1 gx1 x2 gx2 x3 gx3 hp ρ g=>aj1 ⟨x0,x1,x2,x3⟩ ⟨gx0,gx1,gx2,gx3⟩ ρ g)
def eB (key:Nat):Sm:=⟨156,key,[],[.agg kRg],false⟩
def bt:List Dt→List Dt
 | []=>[.z ball.ul,.z ball.uh,.z ball.sl,.z ball.sh]
 | _=>[]
def sT_all:Tr:=
(.call 0 (kRg) (.zs [0,18446744073709551615,-9223372036854775808,9223372036854775807] .nil) 0
(.leaf (.vs 0 4 .nil)))
def af7:Spec:={F:=fun k=>match k with | 0=>lR | _=>fun _=>[],pre:=fun k=>match k with | _=>fun _=>True}
set_option maxRecDepth 100000 in
theorem akt:am tys_XbA [xT 0] [] [] [] 200 Tryz.f156 [] [.agg kRg] false [] sT_all:=⟨by kernel_rfl,by kernel_rfl,by kernel_rfl⟩
set_option maxRecDepth 100000 in
set_option maxHeartbeats 8000000 in
theorem akb (ρ:Env) (g:af ρ 0 []=[]):sT_all.asks af7 (fun ρ e=>e.D ρ=bt []) ρ fun _ _=>False:=by
 simp only[sT_all,af7,kRg,lR,xO,bt,Tr.asks,ai,okDs,okD,eqs,E.I,E.B,E.L,E.R,E.D,E.vs,E.gs,E.ins,E.sv,E.tn,E.iv,E.zs,E.pv,Nat.reduceSub,dI,dB,dL,varD,af,S1,Nat.reduceAdd,-eq_self,Pi.eta,Pu.eta,Rg.eta]
 intro e; (try simp only[e,Pi.eta,Pu.eta,Rg.eta,-eq_self]); clear e
 ·rfl
theorem fY {sp:Spec} {key:Nat} (hF:sp.F key=bt) (hP:sp.pre key=fun _=>True:=by rfl):SmOk Tryz.prog sp (eB key):=
 an (s:=eB key) hF hP (by kernel_rfl) aV (smc (aeM rfl) sm0) Tryz.func156 fn0 akt (.inl rfl) (fun hp ρ g=>akb ρ g)
def abI (key:Nat):Sm:=⟨140,key,[.one (.int .u64)],[.agg kRg],false⟩
def aaU (v:Int):List Dt:=[.z ((bone v).ul),.z ((bone v).uh),.z ((bone v).sl),.z ((bone v).sh)]
def rm:List Dt→List Dt
 | [.z x0]=>aaU x0
 | _=>[]
def sT_one:Tr:=
(.call 0 (kRg) (.cons (.var 0) (.cons (.var 0) (.cons (.conv .i64 (.var 0)) (.cons (.conv .i64 (.var 0)) .nil)))) 1
(.leaf (.vs 1 4 .nil)))
def afW:Spec:={F:=fun k=>match k with | 0=>lR | _=>fun _=>[],pre:=fun k=>match k with | _=>fun _=>True}
set_option maxRecDepth 100000 in
theorem aki:am tys_XbA [xT 0] [] [] [] 200 Tryz.f140 [.one (.int .u64)] [.agg kRg] false [.int .u64] sT_one:=⟨by kernel_rfl,by kernel_rfl,by kernel_rfl⟩
set_option maxRecDepth 100000 in
set_option maxHeartbeats 8000000 in
theorem ajZ (v:Int) (hv:inK .u64 v=true) (ρ:Env) (g:af ρ 0 [.int .u64]=[.z v]):sT_one.asks afW (fun ρ e=>e.D ρ=rm [.z v]) ρ fun _ _=>False:=by
 simp only[af,varD,List.cons.injEq,Dt.z.injEq,Dt.l.injEq,b2i_eq_iff,Nat.reduceAdd,and_true] at g
 simp only[sT_one,afW,kRg,lR,xO,rm,aaU,Tr.asks,ai,okDs,okD,eqs,E.I,E.B,E.L,E.R,E.D,E.vs,E.gs,E.ins,E.sv,E.tn,E.iv,E.zs,E.pv,Nat.reduceSub,dI,dB,dL,varD,af,S1,Nat.reduceAdd,-eq_self,Pi.eta,Pu.eta,Rg.eta,g]
 intro e; (try simp only[e,Pi.eta,Pu.eta,Rg.eta,-eq_self]); clear e
 ·simp[bone,ca]
theorem akA {sp:Spec} {key:Nat} (hF:sp.F key=rm) (hP:sp.pre key=fun _=>True:=by rfl):SmOk Tryz.prog sp (abI key):=
 an (s:=abI key) hF hP (by kernel_rfl) aV (smc (aeM rfl) sm0) Tryz.func140 fn0 aki (.inl rfl) (fun x0 gx0 hp ρ g=>ajZ x0 gx0 ρ g)
def vP (key:Nat):Sm:=⟨109,key,[.agg kRg,.one (.int .u64)],[.one .bool],false⟩
def vt (a:Rg) (v:Int):List Dt:=[.z (b2i (bhas a v))]
def mi:List Dt→List Dt
 | [.z x0,.z x1,.z x2,.z x3,.z x4]=>vt ⟨x0,x1,x2,x3⟩ x4
 | _=>[]
def sT_has:Tr:=
(.call 0 [.bool] (.vs 0 4 .nil) 5
(.br (.bvar 5)
(.call 1 (kPu) (.vs 0 4 .nil) 6
(.call 3 [.bool] (.vs 6 2 (.cons (.var 4) .nil)) 8
(.br (.bvar 8)
(.call 2 (kPi) (.vs 0 4 .nil) 9
(.call 4 [.bool] (.vs 9 2 (.cons (.conv .i64 (.var 4)) .nil)) 11
(.leaf (.consb (.bvar 11) .nil))))
(.leaf (.consb (.tt false) .nil)))))
(.leaf (.consb (.tt false) .nil))))
def af6:Spec:={F:=fun k=>match k with | 0=>cZ | 1=>eR | 2=>eS | 3=>lO | 4=>mh | _=>fun _=>[],pre:=fun k=>match k with | _=>fun _=>True}
set_option maxRecDepth 100000 in
theorem aks:am tys_XbA [jZ 0,nt 1,nu 2,tF 3,tR 4] [] [] [] 200 Tryz.f109 [.agg kRg,.one (.int .u64)] [.one .bool] false [.int .u64,.int .u64,.int .i64,.int .i64,.int .u64] sT_has:=⟨by kernel_rfl,by kernel_rfl,by kernel_rfl⟩
set_option maxRecDepth 100000 in
set_option maxHeartbeats 8000000 in
theorem aka (a:Rg) (ha:Rg.ok a) (v:Int) (hv:inK .u64 v=true) (ρ:Env) (g:af ρ 0 [.int .u64,.int .u64,.int .i64,.int .i64,.int .u64]=[.z a.ul,.z a.uh,.z a.sl,.z a.sh,.z v]):sT_has.asks af6 (fun ρ e=>e.D ρ=mi [.z a.ul,.z a.uh,.z a.sl,.z a.sh,.z v]) ρ fun _ _=>False:=by
 simp only[af,varD,List.cons.injEq,Dt.z.injEq,Dt.l.injEq,b2i_eq_iff,Nat.reduceAdd,and_true] at g
 simp only[sT_has,af6,kPi,kPu,cZ,eR,eS,lO,mh,jY,nm,nn,sY,tv,mi,vt,Tr.asks,ai,okDs,okD,eqs,E.I,E.B,E.L,E.R,E.D,E.vs,E.gs,E.ins,E.sv,E.tn,E.iv,E.zs,E.pv,Nat.reduceSub,dI,dB,dL,varD,af,S1,Nat.reduceAdd,-eq_self,Pi.eta,Pu.eta,Rg.eta,g]
 intro e; (try simp only[e,Pi.eta,Pu.eta,Rg.eta,-eq_self]); clear e
 constructor<;>intro c0
 intro e; (try simp only[e,Pi.eta,Pu.eta,Rg.eta,-eq_self]); clear e
 intro e; (try simp only[e,Pi.eta,Pu.eta,Rg.eta,-eq_self]); clear e
 constructor<;>intro c1
 intro e; (try simp only[e,Pi.eta,Pu.eta,Rg.eta,-eq_self]); clear e
 intro e; (try simp only[e,Pi.eta,Pu.eta,Rg.eta,-eq_self]); clear e
 ·(unfold bhas; simp_all [ca]; try (intros; omega))
 ·(unfold bhas; simp_all [ca]; try (intros; omega))
 ·(unfold bhas; simp_all [ca]; try (intros; omega))
theorem agb {sp:Spec} {key:Nat} (hF:sp.F key=mi) (hP:sp.pre key=fun _=>True:=by rfl):SmOk Tryz.prog sp (vP key):=
 an (s:=vP key) hF hP (by kernel_rfl) aV (smc (nv rfl) (smc (vR rfl) (smc (vT rfl) (smc (aik rfl) (smc (aiw rfl) sm0))))) Tryz.func109 fn0 aks (.inl rfl) (fun x0 gx0 x1 gx1 x2 gx2 x3 gx3 x4 gx4 hp ρ g=>aka ⟨x0,x1,x2,x3⟩ ⟨gx0,gx1,gx2,gx3⟩ x4 gx4 ρ g)
def il (key:Nat):Sm:=⟨194,key,[.agg kRg],[.one (.int .u64),.one .bool],true⟩
def ic (a:Rg):List Dt:=[.z (bC a),.z (b2i (dX a))]
def cY:List Dt→List Dt
 | [.z x0,.z x1,.z x2,.z x3]=>ic ⟨x0,x1,x2,x3⟩
 | _=>[]
def sT_single:Tr:=
(.br (.eq (.var 0) (.var 1))
(.call 0 [.bool] (.vs 0 4 (.cons (.var 0) .nil)) 4
(.br (.bvar 4)
(.leaf (.cons (.var 0) (.consb (.tt true) .nil)))
(.leaf (.cons (.lit 0) (.consb (.tt false) .nil)))))
(.leaf (.cons (.lit 0) (.consb (.tt false) .nil))))
def qX:Spec:={F:=fun k=>match k with | 0=>mi | _=>fun _=>[],pre:=fun k=>match k with | _=>fun _=>True}
set_option maxRecDepth 100000 in
theorem aa1:am tys_XbA [vP 0] [] [] [] 200 Tryz.f194 [.agg kRg] [.one (.int .u64),.one .bool] true [.int .u64,.int .u64,.int .i64,.int .i64] sT_single:=⟨by kernel_rfl,by kernel_rfl,by kernel_rfl⟩
set_option maxRecDepth 100000 in
set_option maxHeartbeats 8000000 in
theorem aaM (a:Rg) (ha:Rg.ok a) (ρ:Env) (g:af ρ 0 [.int .u64,.int .u64,.int .i64,.int .i64]=[.z a.ul,.z a.uh,.z a.sl,.z a.sh]):sT_single.asks qX (fun ρ e=>e.D ρ=cY [.z a.ul,.z a.uh,.z a.sl,.z a.sh]) ρ fun _ _=>False:=by
 simp only[af,varD,List.cons.injEq,Dt.z.injEq,Dt.l.injEq,b2i_eq_iff,Nat.reduceAdd,and_true] at g
 simp only[sT_single,qX,mi,vt,cY,ic,Tr.asks,ai,okDs,okD,eqs,E.I,E.B,E.L,E.R,E.D,E.vs,E.gs,E.ins,E.sv,E.tn,E.iv,E.zs,E.pv,Nat.reduceSub,dI,dB,dL,varD,af,S1,Nat.reduceAdd,-eq_self,Pi.eta,Pu.eta,Rg.eta,g]
 constructor<;>intro c0
 intro e; (try simp only[e,Pi.eta,Pu.eta,Rg.eta,-eq_self]); clear e
 constructor<;>intro c1
 ·(unfold bC dX; simp_all)
 ·(unfold bC dX; simp_all)
 ·(unfold bC dX; simp_all)
theorem rg {sp:Spec} {key:Nat} (hF:sp.F key=cY) (hP:sp.pre key=fun _=>True:=by rfl):SmOk Tryz.prog sp (il key):=
 an (s:=il key) hF hP (by kernel_rfl) aV (smc (agb rfl) sm0) Tryz.func194 fn0 aa1 (.inl rfl) (fun x0 gx0 x1 gx1 x2 gx2 x3 gx3 hp ρ g=>aaM ⟨x0,x1,x2,x3⟩ ⟨gx0,gx1,gx2,gx3⟩ ρ g)
end Go.Proofs.YtfkhblmeioiciaaGreatDoor
