import Derived.Test.YtfkhblmeioiciaaGreatDoorXbZ
import Derived.Test.YtfkhblmeioiciaaGreatDoorProg
import Derived.Laws.Externs
set_option linter.unusedVariables false
set_option linter.unusedSimpArgs false
namespace Go.Proofs.YtfkhblmeioiciaaGreatDoor
open Go.RowKit Go.ChangeShapes Go.WideShapes
theorem Kn.eta (a:Kn):(⟨a.v,a.m⟩:Kn)=a:=rfl
def Kn.ok (a:Kn):Prop:=inK .u64 a.v=true∧inK .u64 a.m=true
def kKn:List CK:=[.int .u64,.int .u64]
theorem Sc.eta (a:Sc):(⟨a.ul,a.uh,a.sl,a.sh,a.v,a.m⟩:Sc)=a:=rfl
def Sc.ok (a:Sc):Prop:=inK .u64 a.ul=true∧inK .u64 a.uh=true∧inK .i64 a.sl=true∧inK .i64 a.sh=true∧inK .u64 a.v=true∧inK .u64 a.m=true
def kSc:List CK:=[.int .u64,.int .u64,.int .i64,.int .i64,.int .u64,.int .u64]
def tys_VaA:List (Nat×TI):=[(2,⟨false,1,[.int .i64 (.lit 0)],[],none,some .i64,false,false,none,8,false,none,false,0⟩),
 (42,⟨false,1,[.int .u64 (.lit 0)],[],none,some .u64,false,false,none,8,false,none,false,0⟩),
 (44,⟨true,4,(zN 4 2211),[(0,42),(1,42),(2,2),(3,2)],none,none,false,false,none,32,false,none,false,0⟩),
 (46,⟨true,2,[.int .u64 (.lit 0),.int .u64 (.lit 0)],[(0,42),(1,42)],none,none,false,false,none,16,false,none,false,0⟩),
 (48,⟨true,6,(zN 6 112211),[(0,44),(4,46)],none,none,false,false,none,48,false,none,false,0⟩)]
set_option maxRecDepth 100000 in
theorem zU:(tys_VaA.all fun p=>ckTI Tryz.prog p.1 p.2)=true:=by kernel_rfl
theorem qx:(tys_VaA.all fun p=>!p.2.eqok)=true:=by kernel_rfl
theorem zD:(tys_VaA.all fun p=>!p.2.keyok)=true:=by kernel_rfl
theorem bg:∀t i,(t,i)∈tys_VaA→TIok Tryz.prog t i:=by
 intro t i h
 refine bI (cM (f:=ckTI Tryz.prog) zU h) (fun he=> ?_) (fun he=> ?_) (fun he=> ?_)
 ·have h1:=List.all_eq_true.1 qx (t,i) h
  simp[he] at h1
 ·have h1:=List.all_eq_true.1 qx (t,i) h
  simp[he] at h1
 ·have h1:=List.all_eq_true.1 zD (t,i) h
  simp[he] at h1
def gC (key:Nat):Sm:=⟨173,key,[.agg kKn],[.one .bool],false⟩
def gz (a:Kn):List Dt:=[.z (b2i (kmay a))]
def cu:List Dt→List Dt
 | [.z x0,.z x1]=>gz ⟨x0,x1⟩
 | _=>[]
def sT_kmay:Tr:=
(.leaf (.consb (.eq (.bin .and .u64 (.var 0) (.var 1)) (.lit 0)) .nil))
def abu:Spec:={F:=fun k=>match k with | _=>fun _=>[],pre:=fun k=>match k with | _=>fun _=>True}
set_option maxRecDepth 100000 in
theorem ah3:am tys_VaA [] [] [] [] 200 Tryz.f173 [.agg kKn] [.one .bool] false [.int .u64,.int .u64] sT_kmay:=⟨by kernel_rfl,by kernel_rfl,by kernel_rfl⟩
set_option maxRecDepth 100000 in
set_option maxHeartbeats 8000000 in
theorem aht (a:Kn) (ha:Kn.ok a) (ρ:Env) (g:af ρ 0 [.int .u64,.int .u64]=[.z a.v,.z a.m]):sT_kmay.asks abu (fun ρ e=>e.D ρ=cu [.z a.v,.z a.m]) ρ fun _ _=>False:=by
 simp only[af,varD,List.cons.injEq,Dt.z.injEq,Dt.l.injEq,b2i_eq_iff,Nat.reduceAdd,and_true] at g
 simp only[sT_kmay,abu,cu,gz,Tr.asks,ai,okDs,okD,eqs,E.I,E.B,E.L,E.R,E.D,E.vs,E.gs,E.ins,E.sv,E.tn,E.iv,E.zs,E.pv,Nat.reduceSub,dI,dB,dL,varD,af,S1,Nat.reduceAdd,-eq_self,Kn.eta,Sc.eta_r,Sc.eta_k,Sc.eta_2,g]
 ·rfl
theorem lG {sp:Spec} {key:Nat} (hF:sp.F key=cu) (hP:sp.pre key=fun _=>True:=by rfl):SmOk Tryz.prog sp (gC key):=
 an (s:=gC key) hF hP (by kernel_rfl) bg (sm0) Tryz.func173 fn0 ah3 (.inl rfl) (fun x0 gx0 x1 gx1 hp ρ g=>aht ⟨x0,x1⟩ ⟨gx0,gx1⟩ ρ g)
def js (key:Nat):Sm:=⟨192,key,[],[.agg kKn],false⟩
def da:List Dt→List Dt
 | []=>[.z kall.v,.z kall.m]
 | _=>[]
def sT_kall:Tr:=
(.leaf (.cons (.lit 0) (.cons (.lit 18446744073709551615) .nil)))
def aby:Spec:={F:=fun k=>match k with | _=>fun _=>[],pre:=fun k=>match k with | _=>fun _=>True}
set_option maxRecDepth 100000 in
theorem ah7:am tys_VaA [] [] [] [] 200 Tryz.f192 [] [.agg kKn] false [] sT_kall:=⟨by kernel_rfl,by kernel_rfl,by kernel_rfl⟩
set_option maxRecDepth 100000 in
set_option maxHeartbeats 8000000 in
theorem ahx (ρ:Env) (g:af ρ 0 []=[]):sT_kall.asks aby (fun ρ e=>e.D ρ=da []) ρ fun _ _=>False:=by
 simp only[sT_kall,aby,da,Tr.asks,ai,okDs,okD,eqs,E.I,E.B,E.L,E.R,E.D,E.vs,E.gs,E.ins,E.sv,E.tn,E.iv,E.zs,E.pv,Nat.reduceSub,dI,dB,dL,varD,af,S1,Nat.reduceAdd,-eq_self,Sc.eta_r,Sc.eta_k,Sc.eta_2]
 ·rfl
theorem pn {sp:Spec} {key:Nat} (hF:sp.F key=da) (hP:sp.pre key=fun _=>True:=by rfl):SmOk Tryz.prog sp (js key):=
 an (s:=js key) hF hP (by kernel_rfl) bg (sm0) Tryz.func192 fn0 ah7 (.inl rfl) (fun hp ρ g=>ahx ρ g)
def lB (key:Nat):Sm:=⟨141,key,[.one (.int .u64)],[.agg kKn],false⟩
def lm (v:Int):List Dt:=[.z ((kone v).v),.z ((kone v).m)]
def er:List Dt→List Dt
 | [.z x0]=>lm x0
 | _=>[]
def sT_kone:Tr:=
(.leaf (.cons (.var 0) (.cons (.lit 0) .nil)))
def abr:Spec:={F:=fun k=>match k with | _=>fun _=>[],pre:=fun k=>match k with | _=>fun _=>True}
set_option maxRecDepth 100000 in
theorem ah1:am tys_VaA [] [] [] [] 200 Tryz.f141 [.one (.int .u64)] [.agg kKn] false [.int .u64] sT_kone:=⟨by kernel_rfl,by kernel_rfl,by kernel_rfl⟩
set_option maxRecDepth 100000 in
set_option maxHeartbeats 8000000 in
theorem ahr (v:Int) (hv:inK .u64 v=true) (ρ:Env) (g:af ρ 0 [.int .u64]=[.z v]):sT_kone.asks abr (fun ρ e=>e.D ρ=er [.z v]) ρ fun _ _=>False:=by
 simp only[af,varD,List.cons.injEq,Dt.z.injEq,Dt.l.injEq,b2i_eq_iff,Nat.reduceAdd,and_true] at g
 simp only[sT_kone,abr,er,lm,Tr.asks,ai,okDs,okD,eqs,E.I,E.B,E.L,E.R,E.D,E.vs,E.gs,E.ins,E.sv,E.tn,E.iv,E.zs,E.pv,Nat.reduceSub,dI,dB,dL,varD,af,S1,Nat.reduceAdd,-eq_self,Sc.eta_r,Sc.eta_k,Sc.eta_2,g]
 ·rfl
theorem tV {sp:Spec} {key:Nat} (hF:sp.F key=er) (hP:sp.pre key=fun _=>True:=by rfl):SmOk Tryz.prog sp (lB key):=
 an (s:=lB key) hF hP (by kernel_rfl) bg (sm0) Tryz.func141 fn0 ah1 (.inl rfl) (fun x0 gx0 hp ρ g=>ahr x0 gx0 ρ g)
def tM (key:Nat):Sm:=⟨110,key,[.agg kKn,.one (.int .u64)],[.one .bool],false⟩
def tj (a:Kn) (v:Int):List Dt:=[.z (b2i (khas a v))]
def lY:List Dt→List Dt
 | [.z x0,.z x1,.z x2]=>tj ⟨x0,x1⟩ x2
 | _=>[]
def sT_khas:Tr:=
(.call 0 [.bool] (.vs 0 2 .nil) 3
(.br (.bvar 3)
(.leaf (.consb (.eq (.bin .andNot .u64 (.var 2) (.var 1)) (.var 0)) .nil))
(.leaf (.consb (.tt false) .nil))))
def abv:Spec:={F:=fun k=>match k with | 0=>cu | _=>fun _=>[],pre:=fun k=>match k with | _=>fun _=>True}
set_option maxRecDepth 100000 in
theorem ah4:am tys_VaA [gC 0] [] [] [] 200 Tryz.f110 [.agg kKn,.one (.int .u64)] [.one .bool] false [.int .u64,.int .u64,.int .u64] sT_khas:=⟨by kernel_rfl,by kernel_rfl,by kernel_rfl⟩
set_option maxRecDepth 100000 in
set_option maxHeartbeats 8000000 in
theorem ahu (a:Kn) (ha:Kn.ok a) (v:Int) (hv:inK .u64 v=true) (ρ:Env) (g:af ρ 0 [.int .u64,.int .u64,.int .u64]=[.z a.v,.z a.m,.z v]):sT_khas.asks abv (fun ρ e=>e.D ρ=lY [.z a.v,.z a.m,.z v]) ρ fun _ _=>False:=by
 simp only[af,varD,List.cons.injEq,Dt.z.injEq,Dt.l.injEq,b2i_eq_iff,Nat.reduceAdd,and_true] at g
 simp only[sT_khas,abv,cu,gz,lY,tj,Tr.asks,ai,okDs,okD,eqs,E.I,E.B,E.L,E.R,E.D,E.vs,E.gs,E.ins,E.sv,E.tn,E.iv,E.zs,E.pv,Nat.reduceSub,dI,dB,dL,varD,af,S1,Nat.reduceAdd,-eq_self,Kn.eta,Pi.eta,Pu.eta,Rg.eta,Sc.eta,Sc.eta_r,Sc.eta_k,Sc.eta_2,g]
 intro e; (try simp only[e,Kn.eta,Pi.eta,Pu.eta,Rg.eta,Sc.eta,Sc.eta_r,Sc.eta_k,Sc.eta_2,-eq_self]); clear e
 constructor<;>intro c0
 ·(unfold khas; simp_all [opI])
 ·(unfold khas; simp_all [opI])
theorem air {sp:Spec} {key:Nat} (hF:sp.F key=lY) (hP:sp.pre key=fun _=>True:=by rfl):SmOk Tryz.prog sp (tM key):=
 an (s:=tM key) hF hP (by kernel_rfl) bg (smc (lG rfl) sm0) Tryz.func110 fn0 ah4 (.inl rfl) (fun x0 gx0 x1 gx1 x2 gx2 hp ρ g=>ahu ⟨x0,x1⟩ ⟨gx0,gx1⟩ x2 gx2 ρ g)
def ej (key:Nat):Sm:=⟨202,key,[.one (.int .u64),.one (.int .u64)],[.agg kKn],false⟩
def eg (v:Int) (m:Int):List Dt:=[.z ((gP v m).v),.z ((gP v m).m)]
def bD:List Dt→List Dt
 | [.z x0,.z x1]=>eg x0 x1
 | _=>[]
def sT_kmask:Tr:=
(.leaf (.cons (.bin .andNot .u64 (.var 0) (.var 1)) (.cons (.var 1) .nil)))
def vH:Spec:={F:=fun k=>match k with | _=>fun _=>[],pre:=fun k=>match k with | _=>fun _=>True}
set_option maxRecDepth 100000 in
theorem aex:am tys_VaA [] [] [] [] 200 Tryz.f202 [.one (.int .u64),.one (.int .u64)] [.agg kKn] false [.int .u64,.int .u64] sT_kmask:=⟨by kernel_rfl,by kernel_rfl,by kernel_rfl⟩
set_option maxRecDepth 100000 in
set_option maxHeartbeats 8000000 in
theorem aed (v:Int) (hv:inK .u64 v=true) (m:Int) (hm:inK .u64 m=true) (ρ:Env) (g:af ρ 0 [.int .u64,.int .u64]=[.z v,.z m]):sT_kmask.asks vH (fun ρ e=>e.D ρ=bD [.z v,.z m]) ρ fun _ _=>False:=by
 simp only[af,varD,List.cons.injEq,Dt.z.injEq,Dt.l.injEq,b2i_eq_iff,Nat.reduceAdd,and_true] at g
 simp only[sT_kmask,vH,bD,eg,Tr.asks,ai,okDs,okD,eqs,E.I,E.B,E.L,E.R,E.D,E.vs,E.gs,E.ins,E.sv,E.tn,E.iv,E.zs,E.pv,Nat.reduceSub,dI,dB,dL,varD,af,S1,Nat.reduceAdd,-eq_self,Sc.eta_r,Sc.eta_k,Sc.eta_2,g]
 ·rfl
theorem ip {sp:Spec} {key:Nat} (hF:sp.F key=bD) (hP:sp.pre key=fun _=>True:=by rfl):SmOk Tryz.prog sp (ej key):=
 an (s:=ej key) hF hP (by kernel_rfl) bg (sm0) Tryz.func202 fn0 aex (.inl rfl) (fun x0 gx0 x1 gx1 hp ρ g=>aed x0 gx0 x1 gx1 ρ g)
def pf (key:Nat):Sm:=⟨150,key,[.agg kKn,.agg kKn],[.agg kKn,.one .bool],true⟩
def oM (a:Kn) (b:Kn):List Dt:=[.z ((jJ a b).v),.z ((jJ a b).m),.z (b2i (dx a b))]
def iE:List Dt→List Dt
 | [.z x0,.z x1,.z x2,.z x3]=>oM ⟨x0,x1⟩ ⟨x2,x3⟩
 | _=>[]
def sT_kmeet:Tr:=
(.call 0 [.bool] (.vs 0 2 .nil) 4
(.br (.bvar 4)
(.call 0 [.bool] (.vs 2 2 .nil) 5
(.br (.bvar 5)
(.br (.eq (.bin .andNot .u64 (.bin .xor .u64 (.var 0) (.var 2)) (.bin .or .u64 (.var 1) (.var 3))) (.lit 0))
(.call 2 (kKn) (.cons (.bin .or .u64 (.var 0) (.var 2)) (.cons (.bin .and .u64 (.var 1) (.var 3)) .nil)) 6
(.leaf (.vs 6 2 (.consb (.tt true) .nil))))
(.call 1 (kKn) .nil 6
(.leaf (.vs 6 2 (.consb (.tt false) .nil)))))
(.call 1 (kKn) .nil 6
(.leaf (.vs 6 2 (.consb (.tt false) .nil))))))
(.call 1 (kKn) .nil 5
(.leaf (.vs 5 2 (.consb (.tt false) .nil))))))
def vG:Spec:={F:=fun k=>match k with | 0=>cu | 1=>da | 2=>bD | _=>fun _=>[],pre:=fun k=>match k with | _=>fun _=>True}
set_option maxRecDepth 100000 in
theorem aew:am tys_VaA [gC 0,js 1,ej 2] [] [] [] 200 Tryz.f150 [.agg kKn,.agg kKn] [.agg kKn,.one .bool] true [.int .u64,.int .u64,.int .u64,.int .u64] sT_kmeet:=⟨by kernel_rfl,by kernel_rfl,by kernel_rfl⟩
set_option maxRecDepth 100000 in
set_option maxHeartbeats 8000000 in
theorem aec (a:Kn) (ha:Kn.ok a) (b:Kn) (hb:Kn.ok b) (ρ:Env) (g:af ρ 0 [.int .u64,.int .u64,.int .u64,.int .u64]=[.z a.v,.z a.m,.z b.v,.z b.m]):sT_kmeet.asks vG (fun ρ e=>e.D ρ=iE [.z a.v,.z a.m,.z b.v,.z b.m]) ρ fun _ _=>False:=by
 simp only[af,varD,List.cons.injEq,Dt.z.injEq,Dt.l.injEq,b2i_eq_iff,Nat.reduceAdd,and_true] at g
 simp only[sT_kmeet,vG,kKn,cu,da,bD,gz,eg,iE,oM,Tr.asks,ai,okDs,okD,eqs,E.I,E.B,E.L,E.R,E.D,E.vs,E.gs,E.ins,E.sv,E.tn,E.iv,E.zs,E.pv,Nat.reduceSub,dI,dB,dL,varD,af,S1,Nat.reduceAdd,-eq_self,Kn.eta,Pi.eta,Pu.eta,Rg.eta,Sc.eta,Sc.eta_r,Sc.eta_k,Sc.eta_2,g]
 intro e; (try simp only[e,Kn.eta,Pi.eta,Pu.eta,Rg.eta,Sc.eta,Sc.eta_r,Sc.eta_k,Sc.eta_2,-eq_self]); clear e
 constructor<;>intro c0
 intro e; (try simp only[e,Kn.eta,Pi.eta,Pu.eta,Rg.eta,Sc.eta,Sc.eta_r,Sc.eta_k,Sc.eta_2,-eq_self]); clear e
 constructor<;>intro c1
 constructor<;>intro c2
 intro e; (try simp only[e,Kn.eta,Pi.eta,Pu.eta,Rg.eta,Sc.eta,Sc.eta_r,Sc.eta_k,Sc.eta_2,-eq_self]); clear e
 ·(unfold jJ dx ur; simp_all [opI])
 intro e; (try simp only[e,Kn.eta,Pi.eta,Pu.eta,Rg.eta,Sc.eta,Sc.eta_r,Sc.eta_k,Sc.eta_2,-eq_self]); clear e
 ·(unfold jJ dx ur; simp_all [opI])
 intro e; (try simp only[e,Kn.eta,Pi.eta,Pu.eta,Rg.eta,Sc.eta,Sc.eta_r,Sc.eta_k,Sc.eta_2,-eq_self]); clear e
 ·(unfold jJ dx ur; simp_all [opI])
 intro e; (try simp only[e,Kn.eta,Pi.eta,Pu.eta,Rg.eta,Sc.eta,Sc.eta_r,Sc.eta_k,Sc.eta_2,-eq_self]); clear e
 ·(unfold jJ dx ur; simp_all [opI])
theorem aeO {sp:Spec} {key:Nat} (hF:sp.F key=iE) (hP:sp.pre key=fun _=>True:=by rfl):SmOk Tryz.prog sp (pf key):=
 an (s:=pf key) hF hP (by kernel_rfl) bg (smc (lG rfl) (smc (pn rfl) (smc (ip rfl) sm0))) Tryz.func150 fn0 aew (.inl rfl) (fun x0 gx0 x1 gx1 x2 gx2 x3 gx3 hp ρ g=>aec ⟨x0,x1⟩ ⟨gx0,gx1⟩ ⟨x2,x3⟩ ⟨gx2,gx3⟩ ρ g)
def lD (key:Nat):Sm:=⟨64,key,[.one (.int .u64),.one (.int .i8)],[.one (.int .u64)],false⟩
def lq (x:Int) (l:Int):List Dt:=[.z (zcut x l)]
def jx:List Dt→List Dt
 | [.z x0,.z x1]=>lq x0 x1
 | _=>[]
theorem ahE (x:Int) (hx:inK .u64 x=true) (l:Int) (hl:inK .i8 l=true):(∀w,Calls Tryz.prog 64 #[.int .u64 x,.int .i8 l] w fun e w'=>e=.returned (.int .u64 (zcut x l))∧Ext w w')∧gq (.int .u64 (zcut x l))=true:=by
 have g:=bw hx
 have hz:=oh (cm x l g.1 g.2)
 exact⟨fun W=>(adf x l W g.1 g.2).mono (by rintro e w' ⟨rfl,rfl⟩; exact⟨rfl,Ext.refl _⟩),hz⟩
theorem aix {sp:Spec} {key:Nat} (hF:sp.F key=jx):SmOk Tryz.prog sp (lD key):=by
 refine SmOk.pure hF rfl rfl fun xs vals w h=> ?_
 obtain⟨_,_,_,rfl,⟨x0,rfl,rfl,gx0⟩,h⟩:=h
 obtain⟨_,_,_,rfl,⟨x1,rfl,rfl,gx1⟩,h⟩:=h
 obtain⟨rfl,rfl⟩:=h
 have q:=ahE x0 gx0 x1 gx1
 refine⟨_,.inr ⟨cB Tryz.func64 (by kernel_rfl) (by kernel_rfl) _ w,q.1 w⟩,?_,fun ρ v0 nid j he=> ?_⟩
 ·have q2:=q.2
  simp[gq,fd,fu] at q2
  simp[lD,jx,lq,List.flatMap_cons,List.flatMap_nil,Sh.cks,List.append_nil,List.cons_append,List.nil_append,b2i_one,dU,q2]
 ·simp only[lD,jx,lq,List.flatMap_cons,List.flatMap_nil,Sh.cks,List.append_nil,List.cons_append,List.nil_append,b2i_one,eqs,dI,dB,List.getElem?_cons_zero,List.getElem?_cons_succ,Nat.zero_add,Nat.add_zero,Nat.reduceAdd,and_true] at he
  simp[lD,jx,lq,List.flatMap_cons,List.flatMap_nil,Sh.cks,List.append_nil,List.cons_append,List.nil_append,b2i_one,dT,aQ,ax,V.den,C.den,denL,den0,aU,E.I,E.B,he]
def pg (key:Nat):Sm:=⟨226,key,[.agg kKn,.one (.int .i8)],[.agg kKn],false⟩
def oN (a:Kn) (l:Int):List Dt:=[.z ((kcut a l).v),.z ((kcut a l).m)]
def gJ:List Dt→List Dt
 | [.z x0,.z x1,.z x2]=>oN ⟨x0,x1⟩ x2
 | _=>[]
def sT_kcut:Tr:=
(.call 0 [.bool] (.vs 0 2 .nil) 3
(.br (.bvar 3)
(.call 2 [.int .u64] (.cons (.var 0) (.cons (.var 2) .nil)) 4
(.call 2 [.int .u64] (.vs 1 2 .nil) 5
(.leaf (.vs 4 2 .nil))))
(.call 1 (kKn) .nil 4
(.leaf (.vs 4 2 .nil)))))
def abw:Spec:={F:=fun k=>match k with | 0=>cu | 1=>da | 2=>jx | _=>fun _=>[],pre:=fun k=>match k with | _=>fun _=>True}
set_option maxRecDepth 100000 in
theorem ah5:am tys_VaA [gC 0,js 1,lD 2] [] [] [] 200 Tryz.f226 [.agg kKn,.one (.int .i8)] [.agg kKn] false [.int .u64,.int .u64,.int .i8] sT_kcut:=⟨by kernel_rfl,by kernel_rfl,by kernel_rfl⟩
set_option maxRecDepth 100000 in
set_option maxHeartbeats 8000000 in
theorem ahv (a:Kn) (ha:Kn.ok a) (l:Int) (hl:inK .i8 l=true) (ρ:Env) (g:af ρ 0 [.int .u64,.int .u64,.int .i8]=[.z a.v,.z a.m,.z l]):sT_kcut.asks abw (fun ρ e=>e.D ρ=gJ [.z a.v,.z a.m,.z l]) ρ fun _ _=>False:=by
 simp only[af,varD,List.cons.injEq,Dt.z.injEq,Dt.l.injEq,b2i_eq_iff,Nat.reduceAdd,and_true] at g
 simp only[sT_kcut,abw,kKn,cu,da,jx,gz,lq,gJ,oN,Tr.asks,ai,okDs,okD,eqs,E.I,E.B,E.L,E.R,E.D,E.vs,E.gs,E.ins,E.sv,E.tn,E.iv,E.zs,E.pv,Nat.reduceSub,dI,dB,dL,varD,af,S1,Nat.reduceAdd,-eq_self,Kn.eta,Pi.eta,Pu.eta,Rg.eta,Sc.eta,Sc.eta_r,Sc.eta_k,Sc.eta_2,g]
 intro e; (try simp only[e,Kn.eta,Pi.eta,Pu.eta,Rg.eta,Sc.eta,Sc.eta_r,Sc.eta_k,Sc.eta_2,-eq_self]); clear e
 constructor<;>intro c0
 intro e; (try simp only[e,Kn.eta,Pi.eta,Pu.eta,Rg.eta,Sc.eta,Sc.eta_r,Sc.eta_k,Sc.eta_2,-eq_self]); clear e
 intro e; (try simp only[e,Kn.eta,Pi.eta,Pu.eta,Rg.eta,Sc.eta,Sc.eta_r,Sc.eta_k,Sc.eta_2,-eq_self]); clear e
 ·(unfold kcut; simp_all)
 intro e; (try simp only[e,Kn.eta,Pi.eta,Pu.eta,Rg.eta,Sc.eta,Sc.eta_r,Sc.eta_k,Sc.eta_2,-eq_self]); clear e
 ·(unfold kcut; simp_all)
theorem abT {sp:Spec} {key:Nat} (hF:sp.F key=gJ) (hP:sp.pre key=fun _=>True:=by rfl):SmOk Tryz.prog sp (pg key):=
 an (s:=pg key) hF hP (by kernel_rfl) bg (smc (lG rfl) (smc (pn rfl) (smc (aix rfl) sm0))) Tryz.func226 fn0 ah5 (.inl rfl) (fun x0 gx0 x1 gx1 x2 gx2 hp ρ g=>ahv ⟨x0,x1⟩ ⟨gx0,gx1⟩ x2 gx2 ρ g)
def gB (key:Nat):Sm:=⟨108,key,[.agg kSc],[.one .bool],false⟩
def gv (a:Sc):List Dt:=[.z (b2i (vmay a))]
def ct:List Dt→List Dt
 | [.z x0,.z x1,.z x2,.z x3,.z x4,.z x5]=>gv ⟨x0,x1,x2,x3,x4,x5⟩
 | _=>[]
def sT_vmay:Tr:=
(.call 0 [.bool] (.vs 0 4 .nil) 6
(.br (.bvar 6)
(.call 1 [.bool] (.vs 4 2 .nil) 7
(.leaf (.consb (.bvar 7) .nil)))
(.leaf (.consb (.tt false) .nil))))
def aa8:Spec:={F:=fun k=>match k with | 0=>cZ | 1=>cu | _=>fun _=>[],pre:=fun k=>match k with | _=>fun _=>True}
set_option maxRecDepth 100000 in
theorem ahI:am tys_VaA [jZ 0,gC 1] [] [] [] 200 Tryz.f108 [.agg kSc] [.one .bool] false [.int .u64,.int .u64,.int .i64,.int .i64,.int .u64,.int .u64] sT_vmay:=⟨by kernel_rfl,by kernel_rfl,by kernel_rfl⟩
set_option maxRecDepth 100000 in
set_option maxHeartbeats 8000000 in
theorem ag8 (a:Sc) (ha:Sc.ok a) (ρ:Env) (g:af ρ 0 [.int .u64,.int .u64,.int .i64,.int .i64,.int .u64,.int .u64]=[.z a.ul,.z a.uh,.z a.sl,.z a.sh,.z a.v,.z a.m]):sT_vmay.asks aa8 (fun ρ e=>e.D ρ=ct [.z a.ul,.z a.uh,.z a.sl,.z a.sh,.z a.v,.z a.m]) ρ fun _ _=>False:=by
 simp only[af,varD,List.cons.injEq,Dt.z.injEq,Dt.l.injEq,b2i_eq_iff,Nat.reduceAdd,and_true] at g
 simp only[sT_vmay,aa8,cZ,cu,jY,gz,ct,gv,Tr.asks,ai,okDs,okD,eqs,E.I,E.B,E.L,E.R,E.D,E.vs,E.gs,E.ins,E.sv,E.tn,E.iv,E.zs,E.pv,Nat.reduceSub,dI,dB,dL,varD,af,S1,Nat.reduceAdd,-eq_self,Kn.eta,Pi.eta,Pu.eta,Rg.eta,Sc.eta,Sc.eta_r,Sc.eta_k,Sc.eta_2,g]
 intro e; (try simp only[e,Kn.eta,Pi.eta,Pu.eta,Rg.eta,Sc.eta,Sc.eta_r,Sc.eta_k,Sc.eta_2,-eq_self]); clear e
 constructor<;>intro c0
 intro e; (try simp only[e,Kn.eta,Pi.eta,Pu.eta,Rg.eta,Sc.eta,Sc.eta_r,Sc.eta_k,Sc.eta_2,-eq_self]); clear e
 ·(unfold vmay; simp_all)
 ·(unfold vmay; simp_all)
theorem lE {sp:Spec} {key:Nat} (hF:sp.F key=ct) (hP:sp.pre key=fun _=>True:=by rfl):SmOk Tryz.prog sp (gB key):=
 an (s:=gB key) hF hP (by kernel_rfl) bg (smc (nv rfl) (smc (lG rfl) sm0)) Tryz.func108 fn0 ahI (.inl rfl) (fun x0 gx0 x1 gx1 x2 gx2 x3 gx3 x4 gx4 x5 gx5 hp ρ g=>ag8 ⟨x0,x1,x2,x3,x4,x5⟩ ⟨gx0,gx1,gx2,gx3,gx4,gx5⟩ ρ g)
def lx (key:Nat):Sm:=⟨148,key,[],[.agg kSc],false⟩
def em:List Dt→List Dt
 | []=>[.z vall.ul,.z vall.uh,.z vall.sl,.z vall.sh,.z vall.v,.z vall.m]
 | _=>[]
def sT_vall:Tr:=
(.call 0 (kRg) .nil 0
(.call 1 (kKn) .nil 4
(.leaf (.vs 0 6 .nil))))
def abf:Spec:={F:=fun k=>match k with | 0=>bt | 1=>da | _=>fun _=>[],pre:=fun k=>match k with | _=>fun _=>True}
set_option maxRecDepth 100000 in
theorem ahP:am tys_VaA [eB 0,js 1] [] [] [] 200 Tryz.f148 [] [.agg kSc] false [] sT_vall:=⟨by kernel_rfl,by kernel_rfl,by kernel_rfl⟩
set_option maxRecDepth 100000 in
set_option maxHeartbeats 8000000 in
theorem ahf (ρ:Env) (g:af ρ 0 []=[]):sT_vall.asks abf (fun ρ e=>e.D ρ=em []) ρ fun _ _=>False:=by
 simp only[sT_vall,abf,kKn,kRg,bt,da,em,Tr.asks,ai,okDs,okD,eqs,E.I,E.B,E.L,E.R,E.D,E.vs,E.gs,E.ins,E.sv,E.tn,E.iv,E.zs,E.pv,Nat.reduceSub,dI,dB,dL,varD,af,S1,Nat.reduceAdd,-eq_self,Kn.eta,Pi.eta,Pu.eta,Rg.eta,Sc.eta,Sc.eta_r,Sc.eta_k,Sc.eta_2]
 intro e; (try simp only[e,Kn.eta,Pi.eta,Pu.eta,Rg.eta,Sc.eta,Sc.eta_r,Sc.eta_k,Sc.eta_2,-eq_self]); clear e
 intro e; (try simp only[e,Kn.eta,Pi.eta,Pu.eta,Rg.eta,Sc.eta,Sc.eta_r,Sc.eta_k,Sc.eta_2,-eq_self]); clear e
 ·rfl
theorem tT {sp:Spec} {key:Nat} (hF:sp.F key=em) (hP:sp.pre key=fun _=>True:=by rfl):SmOk Tryz.prog sp (lx key):=
 an (s:=lx key) hF hP (by kernel_rfl) bg (smc (fY rfl) (smc (pn rfl) sm0)) Tryz.func148 fn0 ahP (.inl rfl) (fun hp ρ g=>ahf ρ g)
def eh (key:Nat):Sm:=⟨76,key,[.one (.int .u64)],[.agg kSc],false⟩
def ef (v:Int):List Dt:=[.z ((vone v).ul),.z ((vone v).uh),.z ((vone v).sl),.z ((vone v).sh),.z ((vone v).v),.z ((vone v).m)]
def bo:List Dt→List Dt
 | [.z x0]=>ef x0
 | _=>[]
def sT_vone:Tr:=
(.call 0 (kRg) (.cons (.var 0) .nil) 1
(.call 1 (kKn) (.cons (.var 0) .nil) 5
(.leaf (.vs 1 6 .nil))))
def aa6:Spec:={F:=fun k=>match k with | 0=>rm | 1=>er | _=>fun _=>[],pre:=fun k=>match k with | _=>fun _=>True}
set_option maxRecDepth 100000 in
theorem ahG:am tys_VaA [abI 0,lB 1] [] [] [] 200 Tryz.f76 [.one (.int .u64)] [.agg kSc] false [.int .u64] sT_vone:=⟨by kernel_rfl,by kernel_rfl,by kernel_rfl⟩
set_option maxRecDepth 100000 in
set_option maxHeartbeats 8000000 in
theorem ag6 (v:Int) (hv:inK .u64 v=true) (ρ:Env) (g:af ρ 0 [.int .u64]=[.z v]):sT_vone.asks aa6 (fun ρ e=>e.D ρ=bo [.z v]) ρ fun _ _=>False:=by
 simp only[af,varD,List.cons.injEq,Dt.z.injEq,Dt.l.injEq,b2i_eq_iff,Nat.reduceAdd,and_true] at g
 simp only[sT_vone,aa6,kKn,kRg,rm,er,aaU,lm,bo,ef,Tr.asks,ai,okDs,okD,eqs,E.I,E.B,E.L,E.R,E.D,E.vs,E.gs,E.ins,E.sv,E.tn,E.iv,E.zs,E.pv,Nat.reduceSub,dI,dB,dL,varD,af,S1,Nat.reduceAdd,-eq_self,Kn.eta,Pi.eta,Pu.eta,Rg.eta,Sc.eta,Sc.eta_r,Sc.eta_k,Sc.eta_2,g]
 intro e; (try simp only[e,Kn.eta,Pi.eta,Pu.eta,Rg.eta,Sc.eta,Sc.eta_r,Sc.eta_k,Sc.eta_2,-eq_self]); clear e
 intro e; (try simp only[e,Kn.eta,Pi.eta,Pu.eta,Rg.eta,Sc.eta,Sc.eta_r,Sc.eta_k,Sc.eta_2,-eq_self]); clear e
 ·rfl
theorem gE {sp:Spec} {key:Nat} (hF:sp.F key=bo) (hP:sp.pre key=fun _=>True:=by rfl):SmOk Tryz.prog sp (eh key):=
 an (s:=eh key) hF hP (by kernel_rfl) bg (smc (akA rfl) (smc (tV rfl) sm0)) Tryz.func76 fn0 ahG (.inl rfl) (fun x0 gx0 hp ρ g=>ag6 x0 gx0 ρ g)
def tA (key:Nat):Sm:=⟨62,key,[.agg kSc,.one (.int .u64)],[.one .bool],false⟩
def sU (a:Sc) (v:Int):List Dt:=[.z (b2i (vhas a v))]
def lJ:List Dt→List Dt
 | [.z x0,.z x1,.z x2,.z x3,.z x4,.z x5,.z x6]=>sU ⟨x0,x1,x2,x3,x4,x5⟩ x6
 | _=>[]
def sT_vhas:Tr:=
(.call 0 [.bool] (.vs 0 6 .nil) 7
(.br (.bvar 7)
(.call 1 [.bool] (.vs 0 4 (.cons (.var 6) .nil)) 8
(.br (.bvar 8)
(.call 2 [.bool] (.vs 4 3 .nil) 9
(.leaf (.consb (.bvar 9) .nil)))
(.leaf (.consb (.tt false) .nil))))
(.leaf (.consb (.tt false) .nil))))
def aba:Spec:={F:=fun k=>match k with | 0=>ct | 1=>mi | 2=>lY | _=>fun _=>[],pre:=fun k=>match k with | _=>fun _=>True}
set_option maxRecDepth 100000 in
theorem ahK:am tys_VaA [gB 0,vP 1,tM 2] [] [] [] 200 Tryz.f62 [.agg kSc,.one (.int .u64)] [.one .bool] false [.int .u64,.int .u64,.int .i64,.int .i64,.int .u64,.int .u64,.int .u64] sT_vhas:=⟨by kernel_rfl,by kernel_rfl,by kernel_rfl⟩
set_option maxRecDepth 100000 in
set_option maxHeartbeats 8000000 in
theorem aha (a:Sc) (ha:Sc.ok a) (v:Int) (hv:inK .u64 v=true) (ρ:Env) (g:af ρ 0 [.int .u64,.int .u64,.int .i64,.int .i64,.int .u64,.int .u64,.int .u64]=[.z a.ul,.z a.uh,.z a.sl,.z a.sh,.z a.v,.z a.m,.z v]):sT_vhas.asks aba (fun ρ e=>e.D ρ=lJ [.z a.ul,.z a.uh,.z a.sl,.z a.sh,.z a.v,.z a.m,.z v]) ρ fun _ _=>False:=by
 simp only[af,varD,List.cons.injEq,Dt.z.injEq,Dt.l.injEq,b2i_eq_iff,Nat.reduceAdd,and_true] at g
 simp only[sT_vhas,aba,ct,mi,lY,gv,vt,tj,lJ,sU,Tr.asks,ai,okDs,okD,eqs,E.I,E.B,E.L,E.R,E.D,E.vs,E.gs,E.ins,E.sv,E.tn,E.iv,E.zs,E.pv,Nat.reduceSub,dI,dB,dL,varD,af,S1,Nat.reduceAdd,-eq_self,Kn.eta,Pi.eta,Pu.eta,Rg.eta,Sc.eta,Sc.eta_r,Sc.eta_k,Sc.eta_2,g]
 intro e; (try simp only[e,Kn.eta,Pi.eta,Pu.eta,Rg.eta,Sc.eta,Sc.eta_r,Sc.eta_k,Sc.eta_2,-eq_self]); clear e
 constructor<;>intro c0
 intro e; (try simp only[e,Kn.eta,Pi.eta,Pu.eta,Rg.eta,Sc.eta,Sc.eta_r,Sc.eta_k,Sc.eta_2,-eq_self]); clear e
 constructor<;>intro c1
 intro e; (try simp only[e,Kn.eta,Pi.eta,Pu.eta,Rg.eta,Sc.eta,Sc.eta_r,Sc.eta_k,Sc.eta_2,-eq_self]); clear e
 ·(unfold vhas; simp_all)
 ·(unfold vhas; simp_all)
 ·(unfold vhas; simp_all)
theorem aif {sp:Spec} {key:Nat} (hF:sp.F key=lJ) (hP:sp.pre key=fun _=>True:=by rfl):SmOk Tryz.prog sp (tA key):=
 an (s:=tA key) hF hP (by kernel_rfl) bg (smc (lE rfl) (smc (agb rfl) (smc (air rfl) sm0))) Tryz.func62 fn0 ahK (.inl rfl) (fun x0 gx0 x1 gx1 x2 gx2 x3 gx3 x4 gx4 x5 gx5 x6 gx6 hp ρ g=>aha ⟨x0,x1,x2,x3,x4,x5⟩ ⟨gx0,gx1,gx2,gx3,gx4,gx5⟩ x6 gx6 ρ g)
def jq (key:Nat):Sm:=⟨235,key,[.agg kSc],[.one (.int .u64),.one .bool],true⟩
def jk (a:Sc):List Dt:=[.z (eK a),.z (b2i (sK a))]
def dP:List Dt→List Dt
 | [.z x0,.z x1,.z x2,.z x3,.z x4,.z x5]=>jk ⟨x0,x1,x2,x3,x4,x5⟩
 | _=>[]
def sT_vsingle:Tr:=
(.call 0 [.bool] (.vs 0 6 .nil) 6
(.br (.bvar 6)
(.call 1 [.int .u64,.bool] (.vs 0 4 .nil) 7
(.leaf (.cons (.var 7) (.consb (.bvar 8) .nil))))
(.leaf (.cons (.lit 0) (.consb (.tt false) .nil)))))
def np:Spec:={F:=fun k=>match k with | 0=>ct | 1=>cY | _=>fun _=>[],pre:=fun k=>match k with | _=>fun _=>True}
set_option maxRecDepth 100000 in
theorem xQ:am tys_VaA [gB 0,il 1] [] [] [] 200 Tryz.f235 [.agg kSc] [.one (.int .u64),.one .bool] true [.int .u64,.int .u64,.int .i64,.int .i64,.int .u64,.int .u64] sT_vsingle:=⟨by kernel_rfl,by kernel_rfl,by kernel_rfl⟩
set_option maxRecDepth 100000 in
set_option maxHeartbeats 8000000 in
theorem xL (a:Sc) (ha:Sc.ok a) (ρ:Env) (g:af ρ 0 [.int .u64,.int .u64,.int .i64,.int .i64,.int .u64,.int .u64]=[.z a.ul,.z a.uh,.z a.sl,.z a.sh,.z a.v,.z a.m]):sT_vsingle.asks np (fun ρ e=>e.D ρ=dP [.z a.ul,.z a.uh,.z a.sl,.z a.sh,.z a.v,.z a.m]) ρ fun _ _=>False:=by
 simp only[af,varD,List.cons.injEq,Dt.z.injEq,Dt.l.injEq,b2i_eq_iff,Nat.reduceAdd,and_true] at g
 simp only[sT_vsingle,np,ct,cY,gv,ic,dP,jk,Tr.asks,ai,okDs,okD,eqs,E.I,E.B,E.L,E.R,E.D,E.vs,E.gs,E.ins,E.sv,E.tn,E.iv,E.zs,E.pv,Nat.reduceSub,dI,dB,dL,varD,af,S1,Nat.reduceAdd,-eq_self,Kn.eta,Pi.eta,Pu.eta,Rg.eta,Sc.eta,Sc.eta_r,Sc.eta_k,Sc.eta_2,g]
 intro e; (try simp only[e,Kn.eta,Pi.eta,Pu.eta,Rg.eta,Sc.eta,Sc.eta_r,Sc.eta_k,Sc.eta_2,-eq_self]); clear e
 constructor<;>intro c0
 intro e; (try simp only[e,Kn.eta,Pi.eta,Pu.eta,Rg.eta,Sc.eta,Sc.eta_r,Sc.eta_k,Sc.eta_2,-eq_self]); clear e
 ·(unfold eK sK; simp_all)
 ·(unfold eK sK; simp_all)
theorem xV {sp:Spec} {key:Nat} (hF:sp.F key=dP) (hP:sp.pre key=fun _=>True:=by rfl):SmOk Tryz.prog sp (jq key):=
 an (s:=jq key) hF hP (by kernel_rfl) bg (smc (lE rfl) (smc (rg rfl) sm0)) Tryz.func235 fn0 xQ (.inl rfl) (fun x0 gx0 x1 gx1 x2 gx2 x3 gx3 x4 gx4 x5 gx5 hp ρ g=>xL ⟨x0,x1,x2,x3,x4,x5⟩ ⟨gx0,gx1,gx2,gx3,gx4,gx5⟩ ρ g)
end Go.Proofs.YtfkhblmeioiciaaGreatDoor
